/- A part of the proof. No statement of the claim is in it. -/
import Derived.Test.YtiemeabiekeekaaGreatTa
set_option maxRecDepth 100000
set_option maxHeartbeats 4000000
set_option linter.all false
open Go Go.V Go.Proofs
namespace Y
open X
/-! ### Trees in post order -/
def shift (d : Int) (x : N) : N := { x with kids := x.kids.map (· + d) }
def seg (l : List N) (b e : Nat) (d : Int) : List N := ((l.take e).drop b).map (shift d)
inductive PS (l : List N) : Nat → List Int → Nat → Prop
 | nil (b : Nat) : PS l b [] b
 | cons {b k : Nat} {r : List Int} {e : Nat} {x : N} : l[k]? = some x → PS l b x.kids k → PS l (k + 1) r e → PS l b ((k : Int) :: r) e
theorem PS.le {l : List N} {b e : Nat} {ks : List Int} (h : PS l b ks e) : b ≤ e := by
 induction h with
 | nil b => exact Nat.le_refl _
 | cons h1 h2 h3 i1 i2 => omega
theorem PS.len {l : List N} {b e : Nat} {ks : List Int} (h : PS l b ks e) : ks.length ≤ e - b := by
 induction h with
 | nil b => simp
 | cons h1 h2 h3 i1 i2 =>
  have := h2.le
  have := h3.le
  simp only [List.length_cons]
  omega
theorem PS.mem {l : List N} {b e : Nat} {ks : List Int} (h : PS l b ks e) : ∀ k ∈ ks, (b : Int) ≤ k ∧ k < (e : Int) := by
 induction h with
 | nil b => intro k hk; cases hk
 | cons h1 h2 h3 i1 i2 =>
  intro k hk
  have := h2.le
  have := h3.le
  rcases List.mem_cons.1 hk with rfl | hk
  ·omega
  ·have := i2 k hk
   omega
theorem get_app {l : List N} {k : Nat} {x : N} (h : l[k]? = some x) (m : List N) : (l ++ m)[k]? = some x := by
 rw [List.getElem?_append_left (X.lt_of_get h)]; exact h
theorem PS.app {l : List N} {b e : Nat} {ks : List Int} (h : PS l b ks e) (m : List N) : PS (l ++ m) b ks e := by
 induction h with
 | nil b => exact .nil b
 | cons h1 h2 h3 i1 i2 => exact .cons (get_app h1 m) i1 i2
theorem PS.det {l : List N} {b e : Nat} {ks : List Int} (h : PS l b ks e) : ∀ b', PS l b' ks e → b = b' := by
 induction h with
 | nil b => intro b' h; cases h; rfl
 | cons h1 h2 h3 i1 i2 =>
  intro b' h
  generalize hks : ((_ : Nat) : Int) :: _ = ks at h
  cases h with
  | nil => cases hks
  | cons g1 g2 g3 =>
   simp only [List.cons.injEq] at hks
   obtain ⟨e1, e2⟩ := hks
   have e3 := Int.ofNat.inj e1
   subst e3
   rw [h1] at g1
   cases g1
   exact i1 _ g2
theorem PS.inv {l : List N} {b k : Nat} {r : List Int} {e : Nat} (h : PS l b ((k : Int) :: r) e) : ∃ x, l[k]? = some x ∧ PS l b x.kids k ∧ PS l (k + 1) r e := by
 generalize hks : ((k : Nat) : Int) :: r = ks at h
 induction h with
 | nil => cases hks
 | cons g1 g2 g3 _ _ =>
  simp only [List.cons.injEq] at hks
  obtain ⟨e1, rfl⟩ := hks
  have e3 := Int.ofNat.inj e1
  subst e3
  exact ⟨_, g1, g2, g3⟩
theorem PS.at_ {l : List N} {b e : Nat} {ks : List Int} (h : PS l b ks e) : ∀ j, b ≤ j → j < e → ∃ b' x, b ≤ b' ∧ l[j]? = some x ∧ PS l b' x.kids j := by
 induction h with
 | nil b => intro j h1 h2; omega
 | @cons b k r e x h1 h2 h3 i1 i2 =>
  intro j hj1 hj2
  have := h2.le
  rcases Nat.lt_trichotomy j k with c | c | c
  ·exact i1 j hj1 c
  ·subst c; exact ⟨b, x, Nat.le_refl _, h1, h2⟩
  ·obtain ⟨b', y, q1, q2, q3⟩ := i2 j c hj2
   exact ⟨b', y, by omega, q2, q3⟩
theorem seg_get {l : List N} {b e k : Nat} {d : Int} {x : N} (h1 : b ≤ k) (h2 : k < e) (h : l[k]? = some x) : (seg l b e d)[k - b]? = some (shift d x) := by
 have e1 : b + (k - b) = k := by omega
 simp only [seg, List.getElem?_map, List.getElem?_drop, e1, List.getElem?_take, h2, if_true, h, Option.map_some]
theorem seg_nil (l : List N) (b : Nat) (d : Int) : seg l b b d = [] := by
 simp only [seg, List.map_eq_nil_iff, List.drop_eq_nil_iff, List.length_take]
 omega
theorem seg_app {l : List N} {b k e : Nat} (h1 : b ≤ k) (h2 : k ≤ e) (d : Int) : seg l b k d ++ seg l k e d = seg l b e d := by
 simp only [seg, ← List.map_append]
 congr 1
 have e1 : l.take k = (l.take e).take k := by rw [List.take_take, Nat.min_eq_left h2]
 rw [e1, List.drop_take]
 have e2 : (l.take e).drop k = ((l.take e).drop b).drop (k - b) := by rw [List.drop_drop]; congr 1; omega
 rw [e2, List.take_append_drop]
theorem seg_one {l : List N} {k : Nat} {x : N} (h : l[k]? = some x) (d : Int) : seg l k (k + 1) d = [shift d x] := by
 simp only [seg]
 rw [List.drop_take, X.drop_get h]
 have : k + 1 - k = 1 := by omega
 rw [this]
 rfl
theorem seg_len {l : List N} {b e : Nat} (h1 : e ≤ l.length) (d : Int) : (seg l b e d).length = e - b := by
 simp only [seg, List.length_map, List.length_drop, List.length_take]
 omega
theorem PS.hi {l : List N} {b e : Nat} {ks : List Int} (h : PS l b ks e) (hb : b ≤ l.length) : e ≤ l.length := by
 induction h with
 | nil b => exact hb
 | cons h1 h2 h3 i1 i2 =>
  have := X.lt_of_get h1
  exact i2 (by omega)
theorem kidsF_seg {l : List N} {swap : Int} {g : List N → Option (List N)} {d : Int} (hg : ∀ (i bi : Nat) (x : N) (out : List N), swap = (i : Int) → l[i]? = some x → PS l bi x.kids i → (out.length : Int) = bi + d → out.length + (i + 1 - bi) ≤ 60 → g out = some (out ++ seg l bi (i + 1) d)) {b e : Nat} {ks : List Int} (h : PS l b ks e) :
  ∀ (n : Nat) (out : List N) (acc : List Int), e ≤ n → (out.length : Int) = b + d → out.length + (e - b) ≤ 60 → b ≤ l.length → kidsF (ex l swap g n) ks out acc = some (out ++ seg l b e d, acc ++ ks.map (· + d)) := by
 induction h with
 | nil b =>
  intro n out acc h1 h2 h3 h4
  simp only [kidsF, seg_nil, List.append_nil, List.map_nil]
 | @cons b k r e x h1 h2 h3 i1 i2 =>
  intro n out acc g1 g2 g3 g4
  have l2 := h2.le
  have l3 := h3.le
  have lk := X.lt_of_get h1
  have hex : ex l swap g n (k : Int) out = some (out ++ seg l b (k + 1) d) := by
   obtain ⟨n', rfl⟩ : ∃ n', n = n' + 1 := ⟨n - 1, by omega⟩
   simp only [ex]
   by_cases c : (k : Int) = swap
   ·rw [if_pos c]
    exact hg k b x out c.symm h1 h2 g2 (by omega)
   ·rw [if_neg c]
    simp only [Int.toNat_natCast, h1]
    rw [i1 n' out [] (by omega) g2 (by omega) g4]
    have el : (out ++ seg l b k d).length = out.length + (k - b) := by rw [List.length_append, seg_len (by omega)]
    simp only
    rw [if_pos (by rw [el]; omega)]
    rw [← seg_app l2 (Nat.le_succ k) d, Nat.succ_eq_add_one, seg_one h1, List.append_assoc]
    simp [shift]
  simp only [kidsF, hex]
  have el : (out ++ seg l b (k + 1) d).length = out.length + (k + 1 - b) := by rw [List.length_append, seg_len (by omega)]
  rw [i2 n _ _ g1 (by rw [el]; omega) (by rw [el]; omega) (by omega), List.append_assoc, seg_app (by omega) l3]
  congr 2
  rw [List.append_assoc]
  congr 1
  simp only [List.map_cons, List.cons_append, List.nil_append, el]
  congr 1
  omega
theorem ex_seg {l : List N} {swap : Int} {g : List N → Option (List N)} {d : Int} (hg : ∀ (i bi : Nat) (x : N) (out : List N), swap = (i : Int) → l[i]? = some x → PS l bi x.kids i → (out.length : Int) = bi + d → out.length + (i + 1 - bi) ≤ 60 → g out = some (out ++ seg l bi (i + 1) d)) {b i : Nat} {x : N} (hx : l[i]? = some x) (h : PS l b x.kids i)
  (n : Nat) (out : List N) (h1 : i + 1 ≤ n) (h2 : (out.length : Int) = b + d) (h3 : out.length + (i + 1 - b) ≤ 60) : ex l swap g n (i : Int) out = some (out ++ seg l b (i + 1) d) := by
 have hl := h.le
 have := X.lt_of_get hx
 have hk := kidsF_seg hg (PS.cons hx h (PS.nil (i + 1))) n out [] h1 h2 (by omega) (by omega)
 simp only [kidsF] at hk
 split at hk
 ·cases hk
 ·rename_i l' hl'
  simp only [Option.some.injEq, Prod.mk.injEq] at hk
  rw [hl', hk.1]
theorem rightFrom_of : ∀ (l : List N) (i : Int), (∀ (j : Nat) (x : N), l[j]? = some x → ahead (i + j) x.kids = true) → rightFrom i l = true
 | [], i, h => rfl
 | n :: r, i, h => by
  simp only [rightFrom, Bool.and_eq_true]
  refine ⟨by simpa using h 0 n rfl, rightFrom_of r (i + 1) fun j x hj => ?_⟩
  have := h (j + 1) x (by simpa using hj)
  have e : i + ((j + 1 : Nat) : Int) = i + 1 + j := by omega
  rw [e] at this
  exact this
/-- a whole tree -/
structure Whole (l : List N) : Prop where
 pos : 1 ≤ l.length
 le : l.length ≤ 60
 ps : PS l 0 [((l.length - 1 : Nat) : Int)] l.length
theorem Whole.right {l : List N} (h : Whole l) : rightFrom 0 l = true := by
 refine rightFrom_of l 0 fun j x hj => ?_
 obtain ⟨b', y, q1, q2, q3⟩ := h.ps.at_ j (Nat.zero_le _) (X.lt_of_get hj)
 rw [hj] at q2
 cases q2
 refine List.all_eq_true.2 fun k hk => ?_
 have := q3.mem k hk
 simp only [inB, Bool.and_eq_true, decide_eq_true_eq]
 omega
theorem PS.low {l : List N} {b i : Nat} {x : N} (hx : l[i]? = some x) (h : PS l b x.kids i) {j : Nat} (h1 : b ≤ j) (h2 : j ≤ i) {y : N} (hy : l[j]? = some y) : ∀ k ∈ y.kids, (b : Int) ≤ k ∧ k < j := by
 obtain ⟨b', z, q1, q2, q3⟩ := (PS.cons hx h (PS.nil (i + 1))).at_ j h1 (by omega)
 rw [hy] at q2
 cases q2
 intro k hk
 have := q3.mem k hk
 omega
theorem PS.shift {l : List N} {b i : Nat} (c : Nat) {b0 e : Nat} {ks : List Int} (h : PS l b0 ks e) : c ≤ b0 → e ≤ i + 1 → PS (seg l c (i + 1) (-(c : Int))) (b0 - c) (ks.map (· + -(c : Int))) (e - c) := by
 induction h with
 | nil b => intro _ _; exact .nil _
 | @cons b k r e x h1 h2 h3 i1 i2 =>
  intro g1 g2
  have l2 := h2.le
  have l3 := h3.le
  have e1 : (k : Int) + -(c : Int) = ((k - c : Nat) : Int) := by omega
  simp only [List.map_cons, e1]
  refine .cons (seg_get (by omega) (by omega) h1) (i1 g1 (by omega)) ?_
  have e2 : k - c + 1 = k + 1 - c := by omega
  rw [e2]
  exact i2 (by omega) g2
theorem shift_shift (c : Nat) (x : N) : shift (c : Int) (shift (-(c : Int)) x) = shift 0 x := by
 simp only [Y.shift, List.map_map]
 congr 1
 refine List.map_congr_left fun k hk => ?_
 simp only [Function.comp]
 omega
theorem shift_zero (x : N) : Y.shift 0 x = x := by simp [Y.shift]
theorem seg_zero (l : List N) : seg l 0 l.length 0 = l := by
 simp only [seg, List.take_length, List.drop_zero]
 rw [List.map_congr_left (fun x _ => shift_zero x), List.map_id']
theorem sub_ok {l : List N} (h : Whole l) {i : Nat} (hi : i < l.length) : ∃ b x, b ≤ i ∧ l[i]? = some x ∧ PS l b x.kids i ∧ sub l i = some (seg l b (i + 1) (-(b : Int))) ∧ Whole (seg l b (i + 1) (-(b : Int))) ∧ swp l i (seg l b (i + 1) (-(b : Int))) = some l := by
 obtain ⟨b, x, q1, q2, q3⟩ := h.ps.at_ i (Nat.zero_le _) hi
 have hbi := q3.le
 have h60 := h.le
 have hpos := h.pos
 have hin : inT (i : Int) l = true := by simp only [inT, Bool.and_eq_true, decide_eq_true_eq]; omega
 have hlen : (seg l b (i + 1) (-(b : Int))).length = i + 1 - b := seg_len (by omega) _
 have hw : Whole (seg l b (i + 1) (-(b : Int))) := by
  have hp := PS.shift (i := i) (b := 0) b (PS.cons q2 q3 (PS.nil (i + 1))) (Nat.le_refl _) (Nat.le_refl _)
  refine ⟨by omega, by omega, ?_⟩
  rw [hlen]
  have e1 : (i : Int) + -(b : Int) = ((i + 1 - b - 1 : Nat) : Int) := by omega
  simpa [e1] using hp
 refine ⟨b, x, hbi, q2, q3, ?_, hw, ?_⟩
 ·simp only [sub, h.right, hin, Bool.and_self, if_true]
  rw [ex_seg (d := -(b : Int)) (fun i' bi x' out e => by omega) q2 q3 l.length [] (by omega) (by simp; omega) (by simp; omega)]
  rfl
 ·have hne : (seg l b (i + 1) (-(b : Int))).isEmpty = false := by
   cases hs : seg l b (i + 1) (-(b : Int)) with
   | nil => rw [hs] at hlen; simp at hlen; omega
   | cons a r => rfl
  simp only [swp, h.right, hw.right, hne, hin, Bool.not_false, Bool.and_self, if_true]
  obtain ⟨rx, r2, hroot, _⟩ := h.ps.inv
  obtain ⟨mx, m2, hmroot, _⟩ := hw.ps.inv
  have e1 : (l.length : Int) - 1 = ((l.length - 1 : Nat) : Int) := by omega
  have e2 : ((seg l b (i + 1) (-(b : Int))).length : Int) - 1 = (((seg l b (i + 1) (-(b : Int))).length - 1 : Nat) : Int) := by omega
  rw [e1]
  rw [ex_seg (d := 0) (fun i' bi x' out e a1 a2 a3 a4 => ?_) r2 hroot l.length [] (by omega) (by simp) (by simp; omega)]
  ·have e3 : l.length - 1 + 1 = l.length := by omega
   rw [e3, seg_zero]
   rfl
  ·have e3 := Int.ofNat.inj e
   subst e3
   rw [q2] at a1
   cases a1
   have e4 := q3.det bi a2
   subst e4
   rw [e2, ex_seg (d := (b : Int)) (fun i' bi x' out e => by omega) m2 hmroot _ out (by omega) (by omega) (by omega)]
   have e5 : (seg l b (i + 1) (-(b : Int))).length - 1 + 1 = (seg l b (i + 1) (-(b : Int))).length := by omega
   rw [e5]
   congr 2
   conv => lhs; unfold seg
   rw [List.take_length, List.drop_zero]
   unfold seg
   rw [List.map_map]
   exact List.map_congr_left fun y _ => shift_shift b y
end Y
namespace Y
open X
/-! ### Nodes stay right -/
theorem walkN_map {K : Kn} {text : List Nat} {nodes nodes' : List N} {d : Int} : ∀ (syms : List T) (a : At) (ks : List Int) (to : Nat), (∀ (k : Nat) (y : N), (k : Int) ∈ ks → nodes[k]? = some y → ∃ (k' : Nat) (y' : N), (k : Int) + d = (k' : Int) ∧ nodes'[k']? = some y' ∧ y'.rule = y.rule ∧ y'.args = y.args ∧ y'.fr = y.fr ∧ y'.to = y.to) → walkN K text nodes syms a ks to → walkN K text nodes' syms a (ks.map (· + d)) to
 | [], a, ks, to, hm, h => by
  obtain ⟨rfl, h⟩ := h
  exact ⟨rfl, h⟩
 | x :: r, a, ks, to, hm, h => by
  obtain ⟨kind, nm, ax, bs, rfl, h⟩ := h
  refine ⟨kind, nm, ax, bs, rfl, ?_⟩
  rcases h with ⟨hk, al, ru, k, kr, y, e, env', p1, p2, p3, rfl, p5, p6, p7, p8, p9, p10, p11, p12, p13⟩ | ⟨hk, p, p1, p2⟩
  ·obtain ⟨k', y', q1, q2, q3, q4, q5, q6⟩ := hm k y (by simp) p5
   refine .inl ⟨hk, al, ru, k', kr.map (· + d), y', e, env', p1, p2, p3, by simp [q1], q2, by rw [q3, p6], by rw [q4, p7], by rw [q5, p8], by rw [q6, p9], p10, p11, p12, ?_⟩
   exact walkN_map r (e, env') kr to (fun k y hk => hm k y (List.mem_cons_of_mem _ hk)) p13
  ·exact .inr ⟨hk, p, p1, walkN_map r (p, a.2) ks to hm p2⟩
theorem walkN_app {K : Kn} {text : List Nat} {nodes : List N} (m : List N) {syms : List T} {a : At} {ks : List Int} {to : Nat} (h : walkN K text nodes syms a ks to) : walkN K text (nodes ++ m) syms a ks to := by
 have := walkN_map (d := 0) (nodes' := nodes ++ m) syms a ks to (fun k y hk hy => ⟨k, y, by omega, get_app hy m, rfl, rfl, rfl, rfl⟩) h
 simpa using this
theorem NodeOk.app {K : Kn} {rules : List T} {text : List Nat} {nodes : List N} (m : List N) {i : Nat} (h : NodeOk K rules text nodes i) : NodeOk K rules text (nodes ++ m) i := by
 obtain ⟨x, ru, alt, al, fr, to, nm, ps, az, xs, pl, alts, syms, env, h⟩ := h
 exact ⟨x, ru, alt, al, fr, to, nm, ps, az, xs, pl, alts, syms, env, { h with get := get_app h.get m, walk := walkN_app m h.walk }⟩
theorem NodeOk.seg {K : Kn} {rules : List T} {text : List Nat} {l : List N} {b i : Nat} {x : N} (hx : l[i]? = some x) (hp : PS l b x.kids i) {j : Nat} (h1 : b ≤ j) (h2 : j ≤ i) (h : NodeOk K rules text l j) : NodeOk K rules text (seg l b (i + 1) (-(b : Int))) (j - b) := by
 obtain ⟨y, ru, alt, al, fr, to, nm, ps, az, xs, pl, alts, syms, env, h⟩ := h
 have hlow := PS.low hx hp h1 h2 h.get
 refine ⟨Y.shift (-(b : Int)) y, ru, alt, al, fr, to, nm, ps, az, xs, pl, alts, syms, env, { h with get := seg_get h1 (by omega) h.get, shape := h.shape, kids := ?_, walk := ?_ }⟩
 ·intro k hk
  simp only [Y.shift, List.mem_map] at hk
  obtain ⟨k0, hk0, rfl⟩ := hk
  have := hlow k0 hk0
  omega
 ·refine walkN_map syms (fr, env) y.kids to (fun k z hk hz => ?_) h.walk
  have := hlow k hk
  exact ⟨k - b, Y.shift (-(b : Int)) z, by omega, seg_get (by omega) (by omega) hz, rfl, rfl, rfl, rfl⟩
/-! ### Kids -/
def WK (K : Kn) (text : List Nat) (goals : List Gl) (to rank : Nat) : List T → At → List Nat → List Nat → Prop
 | [], a, ats, es => ats = [] ∧ es = [] ∧ a.1 = to
 | x :: r, a, ats, es => ∃ (kind : Nat) (nm : List Nat) (ax : T) (bs : List Nat), x = .agg [I kind, .str nm, ax, .str bs] ∧
     ((kind = 3 ∧ ∃ (al : List Nat) (ru at_ : Nat) (g : Gl) (e : Nat) (ar er : List Nat) (env' : X.Env) (j k : Nat), K.args ax a.2 a.1 = some (some al) ∧ al.length ≤ 1000 ∧ K.ruleAt nm = some ru ∧ ats = at_ :: ar ∧ es = e :: er ∧ goals[at_]? = some g ∧ g.rule = ru ∧ g.args = al ∧ g.from_ = a.1 ∧ g.ends[j]? = some e ∧ g.ranks[j]? = some k ∧ k < rank ∧ a.1 ≤ e ∧ e ≤ text.length ∧ K.bind a.2 bs ((text.take e).drop a.1) = some env' ∧ WK K text goals to rank r (e, env') ar er) ∨
      (¬ kind = 3 ∧ ∃ p, K.plain x a.2 a.1 = some (some p) ∧ WK K text goals to rank r (p, a.2) ats es))
theorem tryS_tot {K : Kn} {text : List Nat} {rec : At → Option (Option (List Nat × List Nat))} {at_ rank : Nat} {bs : List Nat} {a : At} : ∀ (es ks : List Nat), ks.length = es.length → (∀ e ∈ es, a.1 ≤ e ∧ e ≤ text.length ∧ ∃ env o, K.bind a.2 bs ((text.take e).drop a.1) = some env ∧ rec (e, env) = some o) →
  ∃ o, tryS K text rec at_ rank bs a es ks = some o ∧ ∀ p, o = some p → ∃ (j e k : Nat) (env : X.Env) (q : List Nat × List Nat), es[j]? = some e ∧ ks[j]? = some k ∧ k < rank ∧ a.1 ≤ e ∧ e ≤ text.length ∧ K.bind a.2 bs ((text.take e).drop a.1) = some env ∧ rec (e, env) = some (some q) ∧ p = (at_ :: q.1, e :: q.2)
 | [], ks, hl, h => by
  refine ⟨none, by cases ks <;> rfl, fun p hp => by cases hp⟩
 | e :: r, [], hl, h => by simp at hl
 | e :: r, k :: q, hl, h => by
  simp only [List.length_cons, Nat.add_right_cancel_iff] at hl
  obtain ⟨o, ih1, ih2⟩ := tryS_tot (K := K) (text := text) (rec := rec) (at_ := at_) (rank := rank) (bs := bs) (a := a) r q hl (fun e he => h e (List.mem_cons_of_mem _ he))
  have ih3 : ∀ p, o = some p → ∃ (j e' k' : Nat) (env : X.Env) (q' : List Nat × List Nat), (e :: r)[j]? = some e' ∧ (k :: q)[j]? = some k' ∧ k' < rank ∧ a.1 ≤ e' ∧ e' ≤ text.length ∧ K.bind a.2 bs ((text.take e').drop a.1) = some env ∧ rec (e', env) = some (some q') ∧ p = (at_ :: q'.1, e' :: q'.2) := fun p hp => by
   obtain ⟨j, e', k', env, q', z⟩ := ih2 p hp
   exact ⟨j + 1, e', k', env, q', by simpa using z⟩
  obtain ⟨h1, h2, env, o2, h3, h4⟩ := h e (by simp)
  simp only [tryS]
  by_cases c : rank ≤ k
  ·rw [if_pos c]
   exact ⟨o, ih1, ih3⟩
  ·rw [if_neg c, if_pos ⟨h1, h2⟩, h3]
   simp only [h4]
   cases o2 with
   | none => exact ⟨o, ih1, ih3⟩
   | some w => exact ⟨_, rfl, fun p hp => by cases hp; exact ⟨0, e, k, env, w, rfl, rfl, by omega, h1, h2, h3, h4, rfl⟩⟩
section
variable {SR : List Nat → Option (List Nat)} {MK : T → Option (List Bool)} {VN : List Nat → Bool} {RA : List Nat → Option Nat} {text : List Nat}
theorem kidsS_tot (ht : bsB text = true) (hn : text.length ≤ 12) {R : Nat} {goals : List Gl} (hgi : ∀ g ∈ goals, GI text.length R g) (to rank : Nat) : ∀ (syms : List T) (a : At), syms.all (symOk SR MK VN RA R) = true → a.1 ≤ text.length → GE VN a.2 →
  ∃ o, kidsS (mkK SR MK VN RA text) text goals to rank syms a = some o ∧ ∀ p, o = some p → WK (mkK SR MK VN RA text) text goals to rank syms a p.1 p.2
 | [], a, hs, ha1, ha2 => by
  refine ⟨_, rfl, fun p hp => ?_⟩
  split at hp
  ·rename_i h
   cases hp
   exact ⟨rfl, rfl, h⟩
  ·cases hp
 | x :: r, a, hs, ha1, ha2 => by
  simp only [List.all_cons, Bool.and_eq_true] at hs
  obtain ⟨hs, hsr⟩ := hs
  have hs0 := hs
  unfold symOk at hs
  split at hs
  rotate_left
  ·cases hs
  rename_i kind tx ax bs
  simp only [kidsS]
  by_cases k3 : kind = 3
  ·rw [if_pos k3] at hs ⊢
   simp only [Bool.and_eq_true] at hs
   obtain ⟨h1, h2, h3⟩ := hs
   split at h1
   rotate_left
   ·cases h1
   rename_i l hax
   simp only [Bool.and_eq_true, decide_eq_true_eq] at h1
   obtain ⟨h11, h12, h13⟩ := h1
   split at h2
   rotate_left
   ·cases h2
   rename_i ru hru
   obtain ⟨o, ho, hol⟩ := argsL_tot ha2 a.1 l [] h13
   have hargs : (mkK SR MK VN RA text).args ax a.2 a.1 = some o := by
    show argsS MK ax a.2 a.1 = some o
    simp only [argsS, hax]
    rw [if_pos ⟨h11, h12⟩]
    exact ho
   simp only [hargs]
   cases o with
   | none => exact ⟨_, rfl, fun p hp => by cases hp⟩
   | some al =>
    have hal := hol al rfl
    simp only [List.length_nil, Nat.zero_add] at hal
    have hra : (mkK SR MK VN RA text).ruleAt tx = some ru := hru
    simp only
    rw [if_pos (by omega), hra]
    simp only
    cases hix : gIx ru al a.1 goals 0 with
    | negSucc m => exact ⟨_, rfl, fun p hp => by cases hp⟩
    | ofNat i =>
     obtain ⟨g, _, g2, g3⟩ := gIx_get hix
     simp only [Nat.sub_zero] at g2
     simp only [isG, Bool.and_eq_true, beq_iff_eq, decide_eq_true_eq] at g3
     obtain ⟨g4, g5, g6⟩ := g3
     have hg := hgi g (List.mem_of_getElem? g2)
     simp only [g2]
     obtain ⟨o2, t1, t2⟩ := tryS_tot (K := mkK SR MK VN RA text) (text := text) (rec := kidsS (mkK SR MK VN RA text) text goals to rank r) (at_ := i) (rank := rank) (bs := bs) (a := a) g.ends g.ranks hg.rk (fun e he => by
      have hm := hg.asc.mem e he
      obtain ⟨env, b1, b2⟩ := bindS_tot ha2 h3 (bsB_sub ht e a.1) (by simp; omega)
      obtain ⟨o3, i1, i2⟩ := kidsS_tot ht hn hgi to rank r (e, env) hsr hm.2 b2
      exact ⟨by omega, hm.2, env, o3, b1, i1⟩)
     refine ⟨o2, t1, fun p hp => ?_⟩
     obtain ⟨j, e, k, env, q, u1, u2, u3, u4, u5, u6, u7, rfl⟩ := t2 p hp
     obtain ⟨env', b1, b2⟩ := bindS_tot ha2 h3 (bsB_sub ht e a.1) (by simp; omega)
     have u6' : bindS VN a.2 bs ((text.take e).drop a.1) = some env := u6
     rw [b1] at u6'
     cases u6'
     obtain ⟨o3, i1, i2⟩ := kidsS_tot ht hn hgi to rank r (e, env) hsr u5 b2
     rw [u7] at i1
     cases i1
     exact ⟨kind, tx, ax, bs, rfl, .inl ⟨k3, al, ru, i, g, e, q.1, q.2, env, j, k, hargs, by omega, hra, rfl, rfl, g2, g4, g6, g5, u1, u2, u3, u4, u5, u6, i2 q rfl⟩⟩
  ·rw [if_neg k3]
   obtain ⟨o, hr, hrp⟩ := plainS_tot hn hs0 k3 ha2 ha1
   have hpl : (mkK SR MK VN RA text).plain (.agg [.int .i64 (.ofNat kind), .str tx, ax, .str bs]) a.2 a.1 = some o := hr
   rw [hpl]
   cases o with
   | none => exact ⟨_, rfl, fun p hp => by cases hp⟩
   | some p0 =>
    have := hrp p0 rfl
    obtain ⟨o3, i1, i2⟩ := kidsS_tot ht hn hgi to rank r (p0, a.2) hsr this.2 ha2
    exact ⟨o3, i1, fun p hp => ⟨kind, tx, ax, bs, rfl, .inr ⟨k3, p0, hpl, i2 p hp⟩⟩⟩
end
/-! ### Trees -/
theorem rankF_asc {hi : Nat} : ∀ {es ks : List Nat} {lo j e k : Nat}, Asc1 lo hi es → es[j]? = some e → ks[j]? = some k → rankF es ks e = some k
 | [], ks, lo, j, e, k, h, h1, h2 => by simp at h1
 | x :: r, [], lo, j, e, k, h, h1, h2 => by simp at h2
 | x :: r, y :: q, lo, 0, e, k, h, h1, h2 => by
  simp only [List.getElem?_cons_zero, Option.some.injEq] at h1 h2
  subst h1 h2
  simp [rankF]
 | x :: r, y :: q, lo, j + 1, e, k, h, h1, h2 => by
  simp only [List.getElem?_cons_succ] at h1 h2
  obtain ⟨a1, a2, a3⟩ := h
  have := a3.mem e (List.mem_of_getElem? h1)
  simp only [rankF]
  rw [if_neg (by omega)]
  exact rankF_asc a3 h1 h2
structure TreeR (K : Kn) (rules : List T) (text : List Nat) (out : List N) (g : Gl) (to : Nat) (p : List N × Nat) : Prop where
 ex : ∃ mid x, p.1 = out ++ mid ∧ p.1[p.2]? = some x ∧ x.rule = (g.rule : Int) ∧ x.args = zI g.args ∧ x.fr = (g.from_ : Int) ∧ x.to = (to : Int) ∧ PS p.1 out.length x.kids p.2
 len : p.1.length = p.2 + 1
 le : p.1.length ≤ 60
 ok : ∀ j, out.length ≤ j → j ≤ p.2 → NodeOk K rules text p.1 j
theorem foldT_tot {K : Kn} {rules : List T} {text : List Nat} {goals : List Gl} {to rank : Nat} {rec : Nat → Nat → List N → Option (Option (List N × Nat))}
  (hrec : ∀ (at_ e : Nat) (g : Gl) (j k : Nat), goals[at_]? = some g → g.ends[j]? = some e → g.ranks[j]? = some k → k < rank → e ≤ text.length → ∀ out : List N, out.length ≤ 60 → ∃ o, rec at_ e out = some o ∧ ∀ p, o = some p → TreeR K rules text out g e p) : ∀ (syms : List T) (a : At) (ats es : List Nat) (out : List N) (acc : List Int), WK K text goals to rank syms a ats es → out.length ≤ 60 →
  ∃ o, foldT rec ats es out acc = some o ∧ ∀ q, o = some q → ∃ ks mid, q.2 = acc ++ ks ∧ q.1 = out ++ mid ∧ q.1.length ≤ 60 ∧ PS q.1 out.length ks q.1.length ∧ walkN K text q.1 syms a ks to ∧ ∀ j, out.length ≤ j → j < q.1.length → NodeOk K rules text q.1 j
 | [], a, ats, es, out, acc, h, hl => by
  obtain ⟨rfl, rfl, h⟩ := h
  exact ⟨_, rfl, fun q hq => by cases hq; exact ⟨[], [], by simp, by simp, hl, .nil _, ⟨rfl, h⟩, fun j h1 h2 => by simp only at h2; omega⟩⟩
 | x :: r, a, ats, es, out, acc, h, hl => by
  obtain ⟨kind, nm, ax, bs, rfl, h⟩ := h
  rcases h with ⟨hk, al, ru, at_, g, e, ar, er, env', j, k, p1, p2, p3, rfl, rfl, p6, p7, p8, p9, p10, p11, p12, p13, p14, p15, p16⟩ | ⟨hk, p, p1, p2⟩
  ·obtain ⟨o1, h1, h2⟩ := hrec at_ e g j k p6 p10 p11 p12 p14 out hl
   simp only [foldT, h1]
   cases o1 with
   | none => exact ⟨_, rfl, fun q hq => by cases hq⟩
   | some p =>
    have H := h2 p rfl
    obtain ⟨mid1, y, e1, y1, y2, y3, y4, y5, y6⟩ := H.ex
    obtain ⟨o2, i1, i2⟩ := foldT_tot hrec r (e, env') ar er p.1 (acc ++ [(p.2 : Int)]) p16 H.le
    refine ⟨o2, i1, fun q hq => ?_⟩
    obtain ⟨ks, mid, j1, j2, j3, j4, j5, j6⟩ := i2 q hq
    have hy : q.1[p.2]? = some y := by rw [j2]; exact get_app y1 mid
    refine ⟨(p.2 : Int) :: ks, mid1 ++ mid, by rw [j1]; simp, by rw [j2, e1]; simp, j3, ?_, ?_, fun i h1 h2 => ?_⟩
    ·refine .cons hy ?_ ?_
     ·rw [j2]; exact y6.app mid
     ·rw [← H.len]; exact j4
    ·exact ⟨kind, nm, ax, bs, rfl, .inl ⟨hk, al, ru, p.2, ks, y, e, env', p1, p2, p3, rfl, hy, by rw [y2, p7], by rw [y3, p8], by rw [y4, p9], y5, p13, p14, p15, j5⟩⟩
    ·rcases Nat.lt_or_ge i p.1.length with c | c
     ·rw [j2]; exact (H.ok i h1 (by have := H.len; omega)).app mid
     ·exact j6 i c h2
  ·obtain ⟨o2, i1, i2⟩ := foldT_tot hrec r (p, a.2) ats es out acc p2 hl
   refine ⟨o2, i1, fun q hq => ?_⟩
   obtain ⟨ks, mid, j1, j2, j3, j4, j5, j6⟩ := i2 q hq
   exact ⟨ks, mid, j1, j2, j3, j4, ⟨kind, nm, ax, bs, rfl, .inr ⟨hk, p, p1, j5⟩⟩, j6⟩
/-- what is known of a goal's rule and args -/
def AG (rules : List T) (ru : Nat) (al : List Nat) : Prop := (∀ a ∈ al, a ≤ 99) ∧ ∃ nm ps az pl, rules[ru]? = some (.agg [nm, ps, az]) ∧ symsL ps = some pl ∧ pl.length = al.length
section
variable {SR : List Nat → Option (List Nat)} {MK : T → Option (List Bool)} {VN : List Nat → Bool} {RA : List Nat → Option Nat} {text : List Nat}
theorem altT_tot (ht : bsB text = true) (hn : text.length ≤ 12) {rules : List T} {goals : List Gl} (hgi : ∀ g ∈ goals, GI text.length rules.length g) {nm ps az : T} {g : Gl} (hg : GI text.length rules.length g) (hag : AG rules g.rule g.args) (hrule : rules[g.rule]? = some (.agg [nm, ps, az])) {alts : List T} (halts : symsL az = some alts) (hal : alts.length ≤ 1000) {env : X.Env} (henv : (mkK SR MK VN RA text).env0 ps g.args = some env) (hge : GE VN env) {to rank : Nat} (hto : to ≤ text.length) {rec : Nat → Nat → List N → Option (Option (List N × Nat))}
  (hrec : ∀ (at_ e : Nat) (g : Gl) (j k : Nat), goals[at_]? = some g → g.ends[j]? = some e → g.ranks[j]? = some k → k < rank → e ≤ text.length → ∀ out : List N, out.length ≤ 60 → ∃ o, rec at_ e out = some o ∧ ∀ p, o = some p → TreeR (mkK SR MK VN RA text) rules text out g e p) {out : List N} (ho : out.length ≤ 60) : ∀ (r : List T) (i : Nat), r = alts.drop i → r.all (altOk SR MK VN RA rules.length) = true →
  ∃ o, altT (mkK SR MK VN RA text) text goals rec g env to rank out r i = some o ∧ ∀ p, o = some p → TreeR (mkK SR MK VN RA text) rules text out g to p
 | [], i, hr, ha => ⟨_, rfl, fun p hp => by cases hp⟩
 | x :: r, i, hr, ha => by
  have hx : alts[i]? = some x := by
   have := congrArg (·[0]?) hr
   simpa using this.symm
  have hr' : r = alts.drop (i + 1) := by
   rw [X.drop_get hx] at hr
   cases hr; rfl
  simp only [List.all_cons, Bool.and_eq_true] at ha
  obtain ⟨hxo, ha⟩ := ha
  obtain ⟨oR, ih1, ih2⟩ := altT_tot ht hn hgi hg hag hrule halts hal henv hge hto hrec ho r (i + 1) hr' ha
  unfold altOk at hxo
  split at hxo
  rotate_left
  ·cases hxo
  rename_i xs
  split at hxo
  rotate_left
  ·cases hxo
  rename_i syms hsy
  simp only [Bool.and_eq_true, decide_eq_true_eq] at hxo
  simp only [altT, hsy]
  rw [if_pos (by omega)]
  obtain ⟨o1, k1, k2⟩ := kidsS_tot ht hn hgi to rank syms (g.from_, env) hxo.2 hg.fr hge
  rw [k1]
  cases o1 with
  | none => exact ⟨oR, ih1, ih2⟩
  | some p =>
   obtain ⟨o2, f1, f2⟩ := foldT_tot hrec syms (g.from_, env) p.1 p.2 out [] (k2 p rfl) ho
   simp only [f1]
   cases o2 with
   | none => exact ⟨_, rfl, fun p hp => by cases hp⟩
   | some q =>
    obtain ⟨ks, mid, j1, j2, j3, j4, j5, j6⟩ := f2 q rfl
    simp only [List.nil_append] at j1
    simp only
    split
    ·rename_i h60
     refine ⟨_, rfl, fun w hw => ?_⟩
     cases hw
     obtain ⟨ha99, nm', ps', az', pl, a1, a2, a3⟩ := hag
     rw [hrule] at a1
     cases a1
     have hget : (q.1 ++ [(⟨(g.rule : Int), (i : Int), zI g.args, (g.from_ : Int), (to : Int), q.2⟩ : N)])[q.1.length]? = some ⟨(g.rule : Int), (i : Int), zI g.args, (g.from_ : Int), (to : Int), q.2⟩ := by simp
     refine ⟨⟨mid ++ [⟨(g.rule : Int), (i : Int), zI g.args, (g.from_ : Int), (to : Int), q.2⟩], _, by rw [j2]; simp, hget, rfl, rfl, rfl, rfl, ?_⟩, by simp, by simpa using h60, fun j h1 h2 => ?_⟩
     ·simp only
      rw [j1]
      exact j4.app _
     ·simp only at h2
      rcases Nat.lt_or_ge j q.1.length with c | c
      ·exact (j6 j h1 c).app _
      ·have : j = q.1.length := by omega
       subst this
       refine ⟨_, g.rule, i, g.args, g.from_, to, nm, ps, az, xs, pl, alts, syms, env, ⟨hget, ⟨rfl, rfl, rfl, rfl, rfl⟩, hrule, ⟨a2, a3⟩, ⟨ha99, hg.args⟩, ⟨halts, hx, hal⟩, ⟨hsy, by omega⟩, ⟨hg.fr, hto⟩, ?_, henv, ?_⟩⟩
       ·intro k hk
        simp only [j1] at hk
        have := j4.mem k hk
        omega
       ·simp only [j1]
        exact walkN_app _ j5
    ·exact ⟨_, rfl, fun p hp => by cases hp⟩
theorem treeS_tot {rules : List T} (hG : grOk SR MK VN RA rules = true) (ht : bsB text = true) (hn : text.length ≤ 12) {goals : List Gl} (hgi : ∀ g ∈ goals, GI text.length rules.length g) (hag : ∀ g ∈ goals, AG rules g.rule g.args) : ∀ (f at_ to : Nat) (g : Gl) (out : List N), goals[at_]? = some g → out.length ≤ 60 → to ≤ text.length → (∀ k, rankF g.ends g.ranks to = some k → k < f) → 1 ≤ f →
  ∃ o, treeS (mkK SR MK VN RA text) rules text goals f at_ to out = some o ∧ ∀ p, o = some p → TreeR (mkK SR MK VN RA text) rules text out g to p
 | 0, at_, to, g, out, hg, ho, hto, hk, h1 => by omega
 | f + 1, at_, to, g, out, hg, ho, hto, hk, _ => by
  have hm := List.mem_of_getElem? hg
  have hi := hgi g hm
  obtain ⟨x, hx⟩ := X.get_of_lt hi.rule
  have hxo : ruleOk SR MK VN RA rules.length x = true := List.all_eq_true.1 hG x (List.mem_of_getElem? hx)
  unfold ruleOk at hxo
  split at hxo
  rotate_left
  ·cases hxo
  rename_i nm ps az
  simp only [Bool.and_eq_true] at hxo
  obtain ⟨h1, h2⟩ := hxo
  split at h1
  rotate_left
  ·cases h1
  rename_i pl hpl
  simp only [Bool.and_eq_true, decide_eq_true_eq] at h1
  split at h2
  rotate_left
  ·cases h2
  rename_i al hal
  simp only [Bool.and_eq_true, decide_eq_true_eq] at h2
  obtain ⟨env, e1, e2⟩ := env0L_tot (VN := VN) pl g.args [] h1.2 ⟨rfl, by simp⟩
  have he : (mkK SR MK VN RA text).env0 ps g.args = some env := by
   show env0S VN ps g.args = some env
   simp only [env0S, hpl]
   rw [if_pos ⟨h1.1, hi.args⟩]
   exact e1
  simp only [treeS, hg, hx, hal, he]
  rw [if_pos ⟨by omega, hi.args⟩]
  cases hrk : rankF g.ends g.ranks to with
  | none => exact ⟨_, rfl, fun p hp => by cases hp⟩
  | some rank =>
   have hrf := hk rank hrk
   simp only
   refine altT_tot ht hn hgi hi (hag g hm) hx hal h2.1 he e2 hto (fun at2 e g2 j k q1 q2 q3 q4 q5 out2 q6 => ?_) ho al 0 rfl h2.2
   have hi2 := hgi g2 (List.mem_of_getElem? q1)
   have hr2 := rankF_asc hi2.asc q2 q3
   exact treeS_tot hG ht hn hgi hag f at2 e g2 out2 q1 q6 q5 (fun k' hk' => by rw [hr2] at hk'; cases hk'; omega) (by omega)
end
end Y
namespace Y
open X
/-! ### What holds of each goal's rule and args -/
def AllG (P : Nat → List Nat → Prop) (s : Rs) : Prop := ∀ g ∈ s.goals, P g.rule g.args
theorem AllG.goal {P : Nat → List Nat → Prop} {s : Rs} (h : AllG P s) {ru : Nat} {al : List Nat} (hp : P ru al) (here : Nat) : AllG P (goalS s ru al here).1 := by
 unfold goalS
 split
 ·exact h
 ·split
  ·exact h
  ·intro g hg
   simp only [List.mem_append, List.mem_singleton] at hg
   rcases hg with hg | rfl
   ·exact h g hg
   ·exact hp
/-- calls of a symbol -/
def PSym (K : Kn) (P : Nat → List Nat → Prop) (x : T) : Prop := ∀ nm ax bs, x = .agg [.int .i64 (.ofNat 3), .str nm, ax, .str bs] → ∀ env pos al ru, K.args ax env pos = some (some al) → K.ruleAt nm = some ru → P ru al
section
variable {K : Kn} {text : List Nat} {P : Nat → List Nat → Prop}
theorem AllG.one {x : T} (hx : PSym K P x) {a : At} {nx : List At} {s : Rs} (h : AllG P s) {o : Option (List At)} {s' : Rs} (e : oneS K text x a nx s = some (o, s')) : AllG P s' := by
 unfold oneS at e
 split at e
 rotate_left
 ·cases e
 rename_i kind nm ax bs
 split at e
 ·rename_i k3
  subst k3
  unfold callS at e
  split at e
  ·cases e
  ·cases e; exact h
  ·rename_i al hal
   split at e
   rotate_left
   ·cases e
   split at e
   ·cases e
   ·rename_i ru hru
    have hg := h.goal (hx nm ax bs rfl _ _ _ _ hal hru) a.1
    split at e
    ·cases e; exact hg
    ·split at e
     ·cases e
     ·split at e
      ·split at e
       ·cases e
       ·cases e; exact hg
      ·cases e
 ·split at e
  ·cases e
  ·cases e; exact h
  ·split at e
   ·cases e; exact h
   ·cases e
theorem AllG.step {x : T} (hx : PSym K P x) : ∀ (l nx : List At) (s : Rs) (o : Option (List At)) (s' : Rs), AllG P s → stepS K text x l nx s = some (o, s') → AllG P s'
 | [], nx, s, o, s', h, e => by simp only [stepS] at e; cases e; exact h
 | a :: r, nx, s, o, s', h, e => by
  simp only [stepS] at e
  split at e
  ·cases e
  ·rename_i h1; cases e; exact h.one hx h1
  ·rename_i h1; exact AllG.step hx r _ _ o s' (h.one hx h1) e
theorem AllG.alt : ∀ (syms : List T) (l : List At) (s : Rs) (l' : List At) (s' : Rs), (∀ x ∈ syms, PSym K P x) → AllG P s → altS K text syms l s = some (l', s') → AllG P s'
 | [], l, s, l', s', hx, h, e => by simp only [altS] at e; cases e; exact h
 | x :: r, l, s, l', s', hx, h, e => by
  simp only [altS] at e
  split at e
  ·cases e
  ·split at e
   ·cases e
   ·rename_i h1; cases e; exact AllG.step (hx x (by simp)) _ _ _ _ _ h h1
   ·rename_i h1; exact AllG.alt r _ _ l' s' (fun y hy => hx y (List.mem_cons_of_mem _ hy)) (AllG.step (hx x (by simp)) _ _ _ _ _ h h1) e
def PAlt (K : Kn) (P : Nat → List Nat → Prop) (x : T) : Prop := ∀ xs syms, x = .agg [xs] → symsL xs = some syms → ∀ y ∈ syms, PSym K P y
theorem AllG.looks {ps : T} {g : Gl} : ∀ (al : List T) (f : List Bool) (s : Rs) (f' : List Bool) (s' : Rs), (∀ x ∈ al, PAlt K P x) → AllG P s → looksS K text ps g al f s = some (f', s') → AllG P s'
 | [], f, s, f', s', hx, h, e => by simp only [looksS] at e; cases e; exact h
 | x :: r, f, s, f', s', hx, h, e => by
  simp only [looksS] at e
  split at e
  ·cases e
  ·rename_i f1 s1 h1
   refine AllG.looks r _ _ f' s' (fun y hy => hx y (List.mem_cons_of_mem _ hy)) ?_ e
   unfold altOne at h1
   split at h1
   rotate_left
   ·cases h1
   split at h1
   ·cases h1
   rename_i syms hsy
   split at h1
   rotate_left
   ·cases h1
   split at h1
   ·cases h1
   split at h1
   ·cases h1
   rename_i l s2 h2
   split at h1
   rotate_left
   ·cases h1
   split at h1
   ·cases h1
   cases h1
   exact AllG.alt syms _ _ _ _ (hx _ (by simp) _ _ rfl hsy) h h2
theorem AllG.adds {i : Nat} {ends : List Nat} : ∀ (f : List Bool) (p : Nat) (s s' : Rs), AllG P s → addsS i ends f p s = some s' → AllG P s'
 | [], p, s, s', h, e => by simp only [addsS] at e; cases e; exact h
 | b :: r, p, s, s', h, e => by
  simp only [addsS] at e
  split at e
  ·split at e
   ·cases e
   ·rename_i s1 h1
    refine AllG.adds r _ _ s' ?_ e
    unfold addS at h1
    split at h1
    ·cases h1
    rename_i g hg
    split at h1
    rotate_left
    ·cases h1
    cases h1
    intro g' hg'
    rcases List.mem_or_eq_of_mem_set hg' with q | rfl
    ·exact h g' q
    ·exact h g (List.mem_of_getElem? hg)
  ·exact AllG.adds r _ _ s' h e
def PRules (K : Kn) (P : Nat → List Nat → Prop) (rules : List T) : Prop := ∀ (i : Nat) (nm : List Nat) (ps az : T) (al : List T), rules[i]? = some (T.agg [.str nm, ps, az]) → symsL az = some al → ∀ x ∈ al, PAlt K P x
theorem AllG.pass {rules : List T} (hP : PRules K P rules) : ∀ (f i : Nat) (s s' : Rs), AllG P s → passS K rules text f i s = some s' → AllG P s'
 | 0, i, s, s', h, e => by cases e
 | f + 1, i, s, s', h, e => by
  simp only [passS] at e
  split at e
  ·split at e
   ·split at e
    ·cases e
    ·rename_i s1 h1
     refine AllG.pass hP f _ _ s' ?_ e
     unfold lookS at h1
     split at h1
     ·cases h1
     split at h1
     rotate_left
     ·cases h1
     rename_i nm ps az hr
     split at h1
     ·cases h1
     rename_i al hal
     split at h1
     rotate_left
     ·cases h1
     split at h1
     ·cases h1
     rename_i f1 s2 h2
     exact AllG.adds _ _ _ _ (AllG.looks al _ _ _ _ (hP _ nm ps az al hr hal) h h2) h1
   ·cases e
  ·cases e; exact h
theorem AllG.round {rules : List T} (hP : PRules K P rules) {f : Nat} : ∀ (n : Nat) (s s' : Rs), AllG P s → roundS K rules text f n s = some s' → AllG P s'
 | 0, s, s', h, e => by cases e
 | n + 1, s, s', h, e => by
  simp only [roundS] at e
  split at e
  ·split at e
   ·cases e
   ·rename_i s1 h1
    exact AllG.round hP n _ s' (AllG.pass hP f 0 { s with fresh := false } s1 h h1) e
  ·cases e; exact h
end
theorem argsL_le {MK : T → Option (List Bool)} {env : X.Env} {here : Nat} : ∀ (l : List T) (acc al : List Nat), argsL MK env here l acc = some (some al) → (∀ a ∈ acc, a ≤ 99) → al.length = acc.length + l.length ∧ ∀ a ∈ al, a ≤ 99
 | [], acc, al, h, ha => by
  simp only [argsL, Option.some.injEq] at h
  subst h
  exact ⟨rfl, ha⟩
 | x :: r, acc, al, h, ha => by
  simp only [argsL] at h
  split at h
  ·cases h
  ·cases h
  ·cases h
  ·split at h
   ·rename_i n _ hn
    have := argsL_le r (acc ++ [n]) al h (fun a hm => by
     rcases List.mem_append.1 hm with hm | hm
     ·exact ha a hm
     ·simp only [List.mem_singleton] at hm
      omega)
    simp only [List.length_append, List.length_cons, List.length_nil] at this ⊢
    exact ⟨by omega, this.2⟩
   ·cases h
theorem ar_rules {SR : List Nat → Option (List Nat)} {MK : T → Option (List Bool)} {VN : List Nat → Bool} {RA : List Nat → Option Nat} {text : List Nat} {rules : List T} (h : arOk RA rules = true) : PRules (mkK SR MK VN RA text) (AG rules) rules := by
 intro i nm ps az al hr hal x hx xs syms rfl hsy y hy nm2 ax bs rfl env pos args ru ha hru
 have h1 := List.all_eq_true.1 h _ (List.mem_of_getElem? hr)
 simp only [hal] at h1
 have h2 := List.all_eq_true.1 h1 _ hx
 simp only [altAr, hsy] at h2
 have h3 := List.all_eq_true.1 h2 _ hy
 have hru' : RA nm2 = some ru := hru
 simp only [symAr, if_true, hru'] at h3
 split at h3
 rotate_left
 ·cases h3
 rename_i l ru' hl hr2
 cases hr2
 have ha' : argsS MK ax env pos = some (some args) := ha
 simp only [argsS, hl] at ha'
 split at ha'
 rotate_left
 ·cases ha'
 obtain ⟨q1, q2⟩ := argsL_le l [] args ha' (by simp)
 simp only [List.length_nil, Nat.zero_add] at q1
 split at h3
 rotate_left
 ·cases h3
 rename_i n3 ps3 az3 hr3
 split at h3
 rotate_left
 ·cases h3
 rename_i pl hpl
 simp only [decide_eq_true_eq] at h3
 exact ⟨q2, n3, ps3, az3, pl, hr3, hpl, by omega⟩
/-! ### FirstTree of a right grammar -/
theorem first_ok {SR : List Nat → Option (List Nat)} {MK : T → Option (List Bool)} {VN : List Nat → Bool} {RA : List Nat → Option Nat} {n0 : List Nat} {ps0 az0 : T} {gr : List T} (H : GramOk SR MK VN RA n0 ps0 az0 gr) {text : List Nat} (ht : bsB text = true) {fr to : Nat} (hfr : fr ≤ text.length) (hto : to ≤ text.length) :
  ∃ o, (∀ σ, LD S 6 [.t (.agg [.list (.agg [.str n0, ps0, az0] :: gr)]), .t (.str text), .t (.str n0), .t (.list []), .t (I fr), .t (I to)] σ = some (.t (firstT o), σ)) ∧ ∀ p, o = some p → text.length ≤ 12 ∧ Whole p.1 ∧ ∀ i, i < p.1.length → NodeOk (mkK SR MK VN RA text) (.agg [.str n0, ps0, az0] :: gr) text p.1 i := by
 have hra := H.rules n0 0 H.first
 by_cases hn : text.length ≤ 12
 ·have hR : RI text.length (T.agg [.str n0, ps0, az0] :: gr).length ⟨[⟨0, [], fr, [], []⟩], 0, true, false⟩ := by
   refine ⟨by simp, fun g hg => ?_, by simp [tot]⟩
   simp only [List.mem_singleton] at hg
   subst hg
   exact ⟨by simp, hfr, trivial, rfl, by simp⟩
  obtain ⟨s', h1, h2, h3⟩ := roundS_tot (SR := SR) (MK := MK) (VN := VN) (RA := RA) H.right ht hn (f := 5000) (by omega) 5000 _ hR (.inl (by simp [X.mu, tot]))
  have hrun : RunOk (mkK SR MK VN RA text) (.agg [.str n0, ps0, az0] :: gr) text n0 0 [] fr :=
   { k := mkK_ok H.sets H.marks H.names H.rules text
     gok := H.gok
     ruleAt := H.first
     rule := ⟨_, ps0, az0, [], rfl, H.none_, rfl⟩
     len := hn
     from_ := by omega
     args := ⟨by simp, fun a ha => by cases ha⟩ }
  obtain ⟨y, r1, r2⟩ := run_ld hrun (x := .list []) (.inr rfl) h1
  unfold outS at r2
  by_cases hf : s'.full = true
  ·rw [if_pos hf] at r2
   simp only [chartT] at r2
   subst r2
   exact ⟨none, fun σ => first_none r1 to σ, fun p hp => by cases hp⟩
  ·rw [if_neg hf] at r2
   obtain ⟨rows, rfl, hrows⟩ := r2
   have hall : AllG (AG (.agg [.str n0, ps0, az0] :: gr)) s' := AllG.round (ar_rules H.ar) 5000 _ _ (fun g hg => by
    simp only [List.mem_singleton] at hg
    subst hg
    exact ⟨(fun a ha => by cases ha), _, ps0, az0, [], rfl, H.none_, rfl⟩) h1
   simp only [List.length_cons, List.length_nil] at h3
   obtain ⟨g0, hg0⟩ := X.get_of_lt (show 0 < s'.goals.length by omega)
   have hgi := h2.gi g0 (List.mem_of_getElem? hg0)
   obtain ⟨f, hf1, hf2⟩ : ∃ f : Nat, 1 ≤ f ∧ ∀ k, rankF g0.ends g0.ranks to = some k → k < f := by
    cases hr : rankF g0.ends g0.ranks to with
    | none => exact ⟨1, Nat.le_refl _, fun k hk => by cases hk⟩
    | some k => exact ⟨k + 1, by omega, fun k' hk => by cases hk; omega⟩
   obtain ⟨o, t1, t2⟩ := treeS_tot (SR := SR) (MK := MK) (VN := VN) (RA := RA) H.right ht hn h2.gi hall f 0 to g0 [] hg0 (by simp) hto hf2 hf1
   have hlen := h2.len
   refine ⟨o, fun σ => first_some hrun.k hrows (fun g hg => by have := (h2.gi g hg).args; omega) (by omega) (fun g hg => ⟨by have := (h2.gi g hg).len hn; omega, (h2.gi g hg).rk⟩) (by omega) r1 t1 σ, fun p hp => ?_⟩
   have T := t2 p hp
   obtain ⟨mid, x, e1, x1, x2, x3, x4, x5, x6⟩ := T.ex
   have hl := T.len
   refine ⟨hn, ⟨by omega, T.le, ?_⟩, fun i hi => T.ok i (Nat.zero_le _) (by omega)⟩
   have e2 : p.1.length - 1 = p.2 := by omega
   rw [e2, hl]
   exact .cons x1 x6 (.nil _)
 ·have r1 := run_long (text := text) (nm := n0) (.list []) fr H.gok hra (by omega)
  exact ⟨none, fun σ => first_none r1 to σ, fun p hp => by cases hp⟩
end Y
namespace Y
open X
attribute [-simp] getElem?_pos
/-! ### Draws of trees -/
theorem place_ld {x : T} {l : List Int} (hx : BytesT x l) (hl : (l.length : Int) ≤ 1048576) {σ : Store} {c : Nat} (hC : CurAt σ c x l) :
  ∃ (r : Int) (o : V.Obj), LD S 25 [.ptr c 0 0 3, .t (I 8)] σ = some (.t (I r), σ.set c o) ∧ CurO x l o := by
 obtain ⟨b, o1, b1, b2⟩ := once_ld hx hl hC (n := 15) (by omega) (by omega)
 have hC1 : CurAt (σ.set c o1) c x l := hC.set b2
 suffices hh : ∃ v σ', LV S 25 [.ptr c 0 0 3, .t (I 8)] σ = some (v, σ') ∧ ∃ (r : Int) (o : V.Obj), v = .t (I r) ∧ σ' = σ.set c o ∧ CurO x l o by
  obtain ⟨v, σ', q1, r, o, rfl, rfl, q2⟩ := hh
  exact ⟨r, o, by rw [LD_inl (A := A25) rfl rfl rfl]; exact q1, q2⟩
 have b1' : LD S 33 [.ptr c 0 0 3, .t (I 15)] σ = some (.t (B b), σ.set c o1) := b1
 refine LV_bodyX (A := A25) rfl Tryz.func25 rfl ?_
 repeat apply wS
 refine wR (by simp; constructor <;> rfl) ?_
 try simp only [tq]
 repeat apply wS
 refine wR (by simp [b1']; constructor <;> rfl) ?_
 try simp only [tq]
 cases b with
 | true =>
  repeat apply wS
  refine wC (t := true) (by simp) ?_
  simp only [iq]
  obtain ⟨s, o2, p1, p2, p3⟩ := pickInt_ld hx hl hC1 (L := [-1, 8, 9, 9223372036854775807, -9223372036854775808]) (by simp) (by simp)
  simp only [List.map_cons, List.map_nil, List.set_set] at p1
  repeat apply wS
  refine wR (by simp [sliceCells, repZero, chunk, fillV, setRange, show List.range 5 = [0, 1, 2, 3, 4] from rfl, show IntKind.i64.wrap 9 = 9 from IntWalk.i64_in 9 (by omega), p1]; constructor <;> rfl) ?_
  try simp only [tq]
  refine W_ret ?_
  exact ⟨trivial, _, rfl, _, _, rfl, rfl, p3⟩
 | false =>
  repeat apply wS
  refine wC (t := false) (by simp) ?_
  simp only [iq]
  refine W_skip ?_
  try simp only [tq]
  obtain ⟨r, o2, p1, p2, p3⟩ := below_ld hx hl hC1 (n := 8) (by omega) (by omega)
  rw [List.set_set] at p1
  have p1' : LD S 30 [.ptr c 0 0 3, .t (I 8)] (σ.set c o1) = some (.t (I r), σ.set c o2) := p1
  repeat apply wS
  refine wR (by simp [p1']; constructor <;> rfl) ?_
  try simp only [tq]
  refine W_ret ?_
  exact ⟨trivial, _, rfl, _, _, rfl, rfl, p3⟩
theorem ends_tot {SR : List Nat → Option (List Nat)} {MK : T → Option (List Bool)} {VN : List Nat → Bool} {RA : List Nat → Option Nat} {n0 : List Nat} {ps0 az0 : T} {gr : List T} (H : GramOk SR MK VN RA n0 ps0 az0 gr) {text : List Nat} (ht : bsB text = true) (hn : text.length ≤ 12) {k : Nat} (hk : k ≤ text.length) :
  ∃ es x, Is x es ∧ (∀ σ, LD S 72 [.t (.agg [.list (.agg [.str n0, ps0, az0] :: gr)]), .t (.str text), .t (.str n0), .t (.list []), .t (I k)] σ = some (.t x, σ)) ∧ (∀ e ∈ es, e ≤ text.length) ∧ es.length ≤ 13 := by
 obtain ⟨s', h1, h2, h3⟩ := run_tot H.right ht hn (ru := 0) (by simp) (al := []) (by simp) (fr := k) hk
 have hrun : RunOk (mkK SR MK VN RA text) (.agg [.str n0, ps0, az0] :: gr) text n0 0 [] k :=
  { k := mkK_ok H.sets H.marks H.names H.rules text
    gok := H.gok
    ruleAt := H.first
    rule := ⟨_, ps0, az0, [], rfl, H.none_, rfl⟩
    len := hn
    from_ := by omega
    args := ⟨by simp, fun a ha => by cases ha⟩ }
 obtain ⟨y, r1, r2⟩ := run_ld hrun (x := .list []) (.inr rfl) h1
 obtain ⟨x, e1, e2⟩ := ends_ld r1 r2 h2
 refine ⟨endsR (outS s'), x, e1, e2, fun e he => (h3 e he).1, ?_⟩
 cases he : endsR (outS s') with
 | nil => simp
 | cons a r => rw [← he]; exact (h3 a (by rw [he]; simp)).2
theorem whole_fit {K : Kn} {rules : List T} {text : List Nat} {l : List N} (h1 : Whole l) (h2 : ∀ i, i < l.length → NodeOk K rules text l i) : ∀ n ∈ l, n.args.length ≤ 1000 ∧ n.kids.length ≤ 60 := by
 intro n hn
 obtain ⟨i, hi⟩ := List.mem_iff_getElem?.1 hn
 have hl := X.lt_of_get hi
 obtain ⟨x, ru, alt, al, fr, to, nm, ps, az, xs, pl, alts, syms, env, H⟩ := h2 i hl
 have hg := H.get
 rw [hi] at hg
 cases hg
 obtain ⟨b', y, q1, q2, q3⟩ := h1.ps.at_ i (Nat.zero_le _) hl
 rw [hi] at q2
 cases q2
 have := q3.len
 have := h1.le
 obtain ⟨s1, s2, s3, s4, s5⟩ := H.shape
 refine ⟨?_, by omega⟩
 rw [s3, zI_len]
 exact H.argsOk.2
attribute [-simp] lenV idxV
theorem tree8_ld (hP : PairsOk) {x : T} {l : List Int} (hx : BytesT x l) (hl : (l.length : Int) ≤ 1048576) {σ : Store} {c : Nat} (hC : CurAt σ c x l) :
  ∃ gx t w ns σ', LD S 49 [.ptr c 0 0 3] σ = some (.t (.tup [.agg [gx], .str t, .agg [w]]), σ') ∧ isTree w ns ∧ ns.length ≤ 60 ∧ (∀ n ∈ ns, n.args.length ≤ 1000 ∧ n.kids.length ≤ 60) ∧ ∀ j, j < σ.length → j ≠ c → σ'[j]? = σ[j]? := by
 suffices hh : ∃ v σ', LV S 49 [.ptr c 0 0 3] σ = some (v, σ') ∧ ∃ gx t w ns, v = .t (.tup [.agg [gx], .str t, .agg [w]]) ∧ isTree w ns ∧ ns.length ≤ 60 ∧ (∀ n ∈ ns, n.args.length ≤ 1000 ∧ n.kids.length ≤ 60) ∧ ∀ j, j < σ.length → j ≠ c → σ'[j]? = σ[j]? by
  obtain ⟨v, σ', q1, gx, t, w, ns, rfl, q2⟩ := hh
  exact ⟨gx, t, w, ns, σ', by rw [LD_inl (A := A49) rfl rfl rfl]; exact q1, q2⟩
 refine LV_bodyX (A := A49) rfl Tryz.func49 rfl ?_
 have lc := hC.lt
 obtain ⟨oc, hc0, hoc⟩ := hC
 repeat apply wS
 refine wR (by simp; constructor <;> rfl) ?_
 try simp only [tq]
 have hC1 : CurAt (σ ++ [.cells [.t .nils] 0 0, .cells [.t .nils] 0 0]) c x l := ⟨oc, by rw [List.getElem?_append_left lc]; exact hc0, hoc⟩
 obtain ⟨G, t, σ1, p1, p2, p3, p4, p5⟩ := pair_ld hP hx hl hC1
 have p2' := p2
 obtain ⟨SR, MK, VN, RA, n0, ps0, az0, gr, rfl, hgood⟩ := p2'
 have q0 : σ1[σ.length]? = some (.cells [.t .nils] 0 0) := by rw [p5 _ (by simp) (by omega), getA]; rfl
 have q1 : σ1[σ.length + 1]? = some (.cells [.t .nils] 0 0) := by rw [p5 _ (by simp) (by omega), getB]; rfl
 have q2 : ∀ j, j < σ.length → j ≠ c → σ1[j]? = σ[j]? := fun j hj hn => by rw [p5 j (by simp; omega) hn, List.getElem?_append_left hj]
 clear p5
 repeat apply wS
 refine wR (by simp [p1, getA, setA, fillV, setRange]; constructor <;> rfl) ?_
 try simp only [tq]
 have q3 : (σ1 ++ [V.Obj.cells [V.t (.list (.agg [.str n0, ps0, az0] :: gr))] 0 0])[σ1.length]? = some (.cells [V.t (.list (.agg [.str n0, ps0, az0] :: gr))] 0 0) := by rw [getA]; rfl
 have l0 := lt_of_get q0
 have l1 := lt_of_get q1
 have q4 : (σ1 ++ [V.Obj.cells [V.t (.list (.agg [.str n0, ps0, az0] :: gr))] 0 0])[σ.length]? = some (.cells [.t .nils] 0 0) := by rw [List.getElem?_append_left l0]; exact q0
 have q5 : (σ1 ++ [V.Obj.cells [V.t (.list (.agg [.str n0, ps0, az0] :: gr))] 0 0])[σ.length + 1]? = some (.cells [.t .nils] 0 0) := by rw [List.getElem?_append_left l1]; exact q1
 have q6 : ∀ j, j < σ.length → j ≠ c → (σ1 ++ [V.Obj.cells [V.t (.list (.agg [.str n0, ps0, az0] :: gr))] 0 0])[j]? = σ[j]? := fun j hj hn => by rw [List.getElem?_append_left (by omega)]; exact q2 j hj hn
 clear q0 q1 q2
 revert q3 q4 q5 q6
 generalize (σ1 ++ [V.Obj.cells [V.t (.list (.agg [.str n0, ps0, az0] :: gr))] 0 0]) = σ2
 intro q3 q4 q5 q6
 have n3 : σ1.length ≠ σ.length := by omega
 have n4 : σ1.length ≠ σ.length + 1 := by omega
 generalize σ1.length = p at q3 n3 n4
 obtain ⟨es, y, e1, e2, e3, e4⟩ := ends_tot hgood p3 (by omega) (k := 0) (Nat.zero_le _)
 have e2' : ∀ σ, LD S 72 [.t (.agg [.list (.agg [.str n0, ps0, az0] :: gr)]), .t (.str t), .t (.str n0), .t (.list []), .t (I 0)] σ = some (.t y, σ) := e2
 repeat apply wS
 refine wR (by simp [q3, e2', sliceCells, repZero, chunk, fillV, idxV]; constructor <;> rfl) ?_
 try simp only [tq]
 repeat apply wS
 refine wR (by simp [e1.len]; constructor <;> rfl) ?_
 try simp only [tq]
 have k1 : σ.length < σ2.length := lt_of_get q4
 have k2 : σ.length + 1 < σ2.length := lt_of_get q5
 by_cases c1 : es.length = 0
 ·repeat apply wS
  refine wC (t := true) (by simp [c1]) ?_
  simp only [iq]
  have k3 : ∀ o, (σ2.set σ.length o)[σ.length + 1]? = some (.cells [.t .nils] 0 0) := fun o => by rw [List.getElem?_set_ne (by omega)]; exact q5
  have k4 : ∀ o o2, ((σ2.set σ.length o).set (σ.length + 1) o2)[σ.length]? = some o := fun o o2 => by rw [List.getElem?_set_ne (by omega), List.getElem?_set_self k1]
  have k5 : ∀ o o2, ((σ2.set σ.length o).set (σ.length + 1) o2)[σ.length + 1]? = some o2 := fun o o2 => List.getElem?_set_self (by simpa using k2)
  repeat apply wS
  refine wR (by simp [q3, q4, k3, buildV, fieldSizes, fillV, repZero, setRange, setRange1]; constructor <;> rfl) ?_
  try simp only [tq]
  refine W_ret ?_
  exact ⟨trivial, .t (.tup [.agg [.list (.agg [.str n0, ps0, az0] :: gr)], .str t, .agg [.nils]]), (by simp [Tryz.f49, k4, k5, mkAgg, allT]), _, t, .nils, [], rfl, .inr ⟨rfl, rfl⟩, by simp, (fun n hn => by cases hn), fun j hj hn => by rw [List.getElem?_set_ne (by omega), List.getElem?_set_ne (by omega)]; exact q6 j hj hn⟩
 ·repeat apply wS
  refine wC (t := false) (by simp [c1]) ?_
  simp only [iq]
  refine W_skip ?_
  try simp only [tq]
  obtain ⟨e, he⟩ := X.get_of_lt (show es.length - 1 < es.length by omega)
  have hel := e3 e (List.mem_of_getElem? he)
  obtain ⟨o, f1, f2⟩ := first_ok hgood p3 (fr := 0) (to := e) (Nat.zero_le _) hel
  obtain ⟨w, b, ns, g1, g2, g3, g4⟩ : ∃ w b ns, firstT o = .tup [.agg [w], B b] ∧ isTree w ns ∧ ns.length ≤ 60 ∧ ∀ n ∈ ns, n.args.length ≤ 1000 ∧ n.kids.length ≤ 60 := by
   cases o with
   | none => exact ⟨.nils, false, [], rfl, .inr ⟨rfl, rfl⟩, by simp, fun n hn => by cases hn⟩
   | some q =>
    obtain ⟨z1, z2, z3⟩ := f2 q rfl
    exact ⟨Ls q.1, true, q.1, rfl, .inl rfl, z2.le, whole_fit z2 z3⟩
  have f1' : ∀ σ, LD S 6 [.t (.agg [.list (.agg [.str n0, ps0, az0] :: gr)]), .t (.str t), .t (.str n0), .t (.list []), .t (I 0), .t (I e)] σ = some (.t (.tup [.agg [w], B b]), σ) := fun σ => by rw [← g1]; exact f1 σ
  have hix : idxV 1 (.t y) ((es.length : Int) - 1) = some (.t (.snap [I e])) := by
   have := e1.idx he
   rw [← this]
   congr 1
   omega
  have hg0 : idxV 3 (.t (.list (.agg [.str n0, ps0, az0] :: gr))) 0 = some (.t (.snap [.str n0, ps0, az0])) := by simp [idxV]
  repeat apply wS
  refine wR (by simp [q3, e1.len, hix, hg0, f1', sliceCells, repZero, chunk, fillV, IntWalk.i64_in ((es.length : Int) - 1) (by omega), X.getA, X.setA, setRange]; constructor <;> rfl) ?_
  try simp only [tq]
  have m1 : (σ2 ++ [V.Obj.cells [V.t w] 0 0])[p]? = some (.cells [V.t (.list (.agg [.str n0, ps0, az0] :: gr))] 0 0) := by rw [List.getElem?_append_left (lt_of_get q3)]; exact q3
  have m2 : (σ2 ++ [V.Obj.cells [V.t w] 0 0])[σ.length]? = some (.cells [.t .nils] 0 0) := by rw [List.getElem?_append_left k1]; exact q4
  have m3 : ∀ o, ((σ2 ++ [V.Obj.cells [V.t w] 0 0]).set σ.length o)[σ.length + 1]? = some (.cells [.t .nils] 0 0) := fun o => by rw [List.getElem?_set_ne (by omega), List.getElem?_append_left k2]; exact q5
  have m4 : (σ2 ++ [V.Obj.cells [V.t w] 0 0])[σ2.length]? = some (.cells [V.t w] 0 0) := by rw [getA]; rfl
  have m5 : ∀ j, j < σ.length → j ≠ c → (σ2 ++ [V.Obj.cells [V.t w] 0 0])[j]? = σ[j]? := fun j hj hn => by rw [List.getElem?_append_left (by omega)]; exact q6 j hj hn
  have m6 : σ2.length < (σ2 ++ [V.Obj.cells [V.t w] 0 0]).length := by simp
  revert m1 m2 m3 m4 m5 m6
  generalize (σ2 ++ [V.Obj.cells [V.t w] 0 0]) = σ3
  intro m1 m2 m3 m4 m5 m6
  have z1 : ∀ o, (σ3.set σ.length o)[p]? = some (.cells [V.t (.list (.agg [.str n0, ps0, az0] :: gr))] 0 0) := fun o => by rw [List.getElem?_set_ne (Ne.symm n3)]; exact m1
  have z2 : ∀ o, (σ3.set σ.length o)[σ2.length]? = some (.cells [V.t w] 0 0) := fun o => by rw [List.getElem?_set_ne (by omega)]; exact m4
  have z3 : ∀ o o2, ((σ3.set σ.length o).set (σ.length + 1) o2)[p]? = some (.cells [V.t (.list (.agg [.str n0, ps0, az0] :: gr))] 0 0) := fun o o2 => by rw [List.getElem?_set_ne (Ne.symm n4)]; exact z1 o
  have z4 : ∀ o o2, ((σ3.set σ.length o).set (σ.length + 1) o2)[σ2.length]? = some (.cells [V.t w] 0 0) := fun o o2 => by rw [List.getElem?_set_ne (by omega)]; exact z2 o
  have k4 : ∀ o o2, ((σ3.set σ.length o).set (σ.length + 1) o2)[σ.length]? = some o := fun o o2 => by rw [List.getElem?_set_ne (by omega), List.getElem?_set_self (by omega)]
  have k5 : ∀ o o2, ((σ3.set σ.length o).set (σ.length + 1) o2)[σ.length + 1]? = some o2 := fun o o2 => List.getElem?_set_self (by simp; omega)
  repeat apply wS
  refine W_regD (fun _ => true) rfl rfl rfl (fun b hb => by
   simp (maxDischargeDepth := 12) [runOpsD, loadOf, chkH, live_all, okL_live, okL_nil, okL_cons, okAt_load, m1, m2, m3, m4, z1, z2, z3, z4, fillV, setRange, setRange1]
   constructor <;> rfl) ?_
  try simp only [tq]
  refine W_ret ?_
  exact ⟨trivial, .t (.tup [.agg [.list (.agg [.str n0, ps0, az0] :: gr)], .str t, .agg [w]]), (by simp [Tryz.f49, k4, k5, mkAgg, allT]), _, t, w, ns, rfl, g2, g3, g4, fun j hj hn => by rw [List.getElem?_set_ne (by omega), List.getElem?_set_ne (by omega)]; exact m5 j hj hn⟩
/-! ### Any tree -/
structure Nv where
 rule : Int
 alt : Int
 args : V
 fr : Int
 to : Int
 kids : V
abbrev Nv.cs (m : Nv) : List V := [.t (I m.rule), .t (I m.alt), m.args, .t (I m.fr), .t (I m.to), m.kids]
def flatV : List Nv → List V
 | [] => []
 | m :: r => m.cs ++ flatV r
theorem flatV_len : ∀ (l : List Nv), (flatV l).length = l.length * 6
 | [] => rfl
 | m :: r => by simp only [flatV, List.length_append, List.length_cons, List.length_nil, flatV_len r]; omega
theorem flatV_set : ∀ {l : List Nv} {i j : Nat} {m m' : Nv} {v : V}, l[i]? = some m → j < 6 → m'.cs = m.cs.set j v → (flatV l).set (i * 6 + j) v = flatV (l.set i m')
 | [], i, j, m, m', v, h, hj, he => by simp at h
 | a :: r, 0, j, m, m', v, h, hj, he => by
  simp only [List.getElem?_cons_zero, Option.some.injEq] at h
  subst h
  simp only [flatV, List.set_cons_zero, Nat.zero_mul, Nat.zero_add]
  rw [List.set_append_left _ _ (by simpa using hj), he]
 | a :: r, i + 1, j, m, m', v, h, hj, he => by
  simp only [List.getElem?_cons_succ] at h
  have ih := flatV_set h hj he
  have e : (i + 1) * 6 + j = i * 6 + j + 6 := by omega
  rw [e]
  simp only [flatV, List.set_cons_succ, List.cons_append, List.nil_append]
  rw [ih]
theorem flatV_get : ∀ {l : List Nv} {i j : Nat} {m : Nv}, l[i]? = some m → j < 6 → (flatV l)[i * 6 + j]? = m.cs[j]?
 | [], i, j, m, h, hj => by simp at h
 | a :: r, 0, j, m, h, hj => by
  simp only [List.getElem?_cons_zero, Option.some.injEq] at h
  subst h
  simp only [flatV, Nat.zero_mul, Nat.zero_add]
  rw [List.getElem?_append_left (by simpa using hj)]
 | a :: r, i + 1, j, m, h, hj => by
  simp only [List.getElem?_cons_succ] at h
  have ih := flatV_get h hj
  have e : (i + 1) * 6 + j = i * 6 + j + 6 := by omega
  rw [e]
  simp only [flatV, List.cons_append, List.nil_append, List.getElem?_cons_succ]
  exact ih
def toV (n : N) : Nv := ⟨n.rule, n.alt, .t (L n.args), n.fr, n.to, .t (L n.kids)⟩
theorem rowCells6 : ∀ (l : List N), rowCells 6 (l.map encN) = some (flatV (l.map toV))
 | [] => rfl
 | n :: r => by
  simp only [List.map_cons, rowCells, rowCells6 r]
  rfl
def Vi (σ : Store) (v : V) (l : List Int) : Prop := v = .t (L l) ∨ ∃ s : Sl, s.l = l ∧ v = s.v ∧ s.In σ
theorem Vi.frz {σ : Store} {v : V} {l : List Int} (h : Vi σ v l) (d : Nat) : Go.V.frz (d + 2) σ v = some (L l) := by
 rcases h with rfl | ⟨s, rfl, rfl, h⟩
 ·rfl
 ·exact h.frz d
structure NvOk (σ : Store) (m : Nv) (n : N) : Prop where
 rule : m.rule = n.rule
 alt : m.alt = n.alt
 fr : m.fr = n.fr
 to : m.to = n.to
 args : Vi σ m.args n.args
 kids : Vi σ m.kids n.kids
theorem NvOk.of (σ : Store) (n : N) : NvOk σ (toV n) n := ⟨rfl, rfl, rfl, rfl, .inl rfl, .inl rfl⟩
inductive AllV (σ : Store) : List Nv → List N → Prop
 | nil : AllV σ [] []
 | cons {m n ms ns} : NvOk σ m n → AllV σ ms ns → AllV σ (m :: ms) (n :: ns)
theorem AllV.of (σ : Store) : ∀ (l : List N), AllV σ (l.map toV) l
 | [] => .nil
 | n :: r => .cons (NvOk.of σ n) (AllV.of σ r)
theorem AllV.set {σ : Store} {m' : Nv} {n' : N} (h' : NvOk σ m' n') {ms : List Nv} {ns : List N} (h : AllV σ ms ns) : ∀ i, AllV σ (ms.set i m') (ns.set i n') := by
 induction h with
 | nil => intro i; exact .nil
 | cons h1 h2 ih =>
  intro i
  cases i with
  | zero => exact .cons h' h2
  | succ i => exact .cons h1 (ih i)
theorem AllV.len {σ : Store} {ms : List Nv} {ns : List N} (h : AllV σ ms ns) : ms.length = ns.length := by
 induction h with
 | nil => rfl
 | cons h1 h2 ih => simp [ih]
theorem AllV.frz {σ : Store} (d : Nat) {ms : List Nv} {ns : List N} (h : AllV σ ms ns) : frzs (Go.V.frz (d + 2) σ) (flatV ms) = some (ns.flatMap encC) := by
 induction h with
 | nil => rfl
 | @cons m n ms ns h1 h2 ih =>
  simp only [flatV, List.flatMap_cons]
  refine frzs_append _ _ _ _ _ ?_ ih
  simp only [Nv.cs, frzs, frz_t, h1.args.frz d, h1.kids.frz d, h1.rule, h1.alt, h1.fr, h1.to]
/-- nodes in memory -/
structure AtV (σ : Store) (q g : Nat) (ms : List Nv) (ns : List N) : Prop where
 get : ∃ w, w ≤ g ∧ σ[q]? = some (.cells (flatV ms) g w)
 all : AllV σ ms ns
theorem chunk6 : ∀ (ns : List N), chunk 6 ns.length (ns.flatMap encC) = ns.map encN
 | [] => rfl
 | n :: r => by
  have := chunk6 r
  simp only [List.length_cons, chunk, List.flatMap_cons, List.map_cons]
  simp only [List.cons_append, List.nil_append, List.take_succ_cons, List.take_zero, List.drop_succ_cons, List.drop_zero, this]
theorem AtV.frz {σ : Store} {q g : Nat} {ms : List Nv} {ns : List N} (h : AtV σ q g ms ns) (d : Nat) : Go.V.frz (d + 3) σ (.sl q g 0 ns.length 6) = some (Ls ns) := by
 have hl := h.all.len
 obtain ⟨w, hw, hg⟩ := h.get
 rw [frz_sl (d := d + 2) hg hw (Nat.le_refl _) (by decide) (by rw [flatV_len]; omega) (ts := ns.flatMap encC)]
 ·rw [chunk6]
 ·rw [List.drop_zero, List.take_of_length_le (by rw [flatV_len]; omega)]
  exact h.all.frz d
theorem appN {x : T} {ns : List N} (hx : isTree x ns) (hl : ns.length ≤ 60) (q : Nat) : ∃ g, ∀ ρ : Store, ρ.length = q → appendV S.ty (ρ ++ [.cells [] 0 0]) [29, 29] (.sl q 0 0 0 6) (.t x) = some (.sl q g 0 ns.length 6, ρ ++ [.cells (flatV (ns.map toV)) g 0]) := by
 have hs : ∀ σ, srcCells σ 6 (.t x) = some (ns.length, flatV (ns.map toV)) := fun σ => by
  rcases hx with rfl | ⟨rfl, rfl⟩
  ·simp [srcCells, rowCells6]
  ·rfl
 cases ns with
 | nil =>
  refine ⟨0, fun ρ h => ?_⟩
  subst h
  simp [appendV, hs, flatV]
 | cons n l =>
  have hb : (l.length + 1) * 80 ≤ 140737488355328 := by simp at hl; omega
  refine ⟨1, fun ρ h => ?_⟩
  subst h
  have h1 : (ρ ++ [V.Obj.cells [] 0 0])[ρ.length]? = some (.cells [] 0 0) := by rw [getA]; rfl
  simp [appendV, hs, hb, setA, h1]
end Y
namespace Y
open X
attribute [-simp] getElem?_pos lenV idxV
/-! ### Any tree -/
def Fit60 (ns : List N) : Prop := ns.length ≤ 60 ∧ ∀ n ∈ ns, n.args.length ≤ 1000 ∧ n.kids.length ≤ 61
theorem any_ld (hP : PairsOk) {x : T} {l : List Int} (hx : BytesT x l) (hl : (l.length : Int) ≤ 1048576) {σ : Store} {c : Nat} (hC : CurAt σ c x l) :
  ∃ gx t q g ms ns σ', LD S 26 [.ptr c 0 0 3] σ = some (.tup [.t (.agg [gx]), .t (.str t), .agg [.sl q g 0 ns.length 6]], σ') ∧ AtV σ' q g ms ns ∧ Fit60 ns ∧ ∀ j, j < σ.length → j ≠ c → σ'[j]? = σ[j]? := by
 suffices hh : ∃ v σ', LV S 26 [.ptr c 0 0 3] σ = some (v, σ') ∧ ∃ gx t q g ms ns, v = .tup [.t (.agg [gx]), .t (.str t), .agg [.sl q g 0 ns.length 6]] ∧ AtV σ' q g ms ns ∧ Fit60 ns ∧ ∀ j, j < σ.length → j ≠ c → σ'[j]? = σ[j]? by
  obtain ⟨v, σ', q1, gx, t, q, g, ms, ns, rfl, q2⟩ := hh
  exact ⟨gx, t, q, g, ms, ns, σ', by rw [LD_inl (A := A26) rfl rfl rfl]; exact q1, q2⟩
 refine LV_bodyX (A := A26) rfl Tryz.func26 rfl ?_
 have lc := hC.lt
 obtain ⟨oc, hc0, hoc⟩ := hC
 repeat apply wS
 refine wR (by simp; constructor <;> rfl) ?_
 try simp only [tq]
 have hC1 : CurAt (σ ++ [V.Obj.cells [V.t .nils] 0 0, V.Obj.cells [V.t .nils] 0 0]) c x l := ⟨oc, by rw [List.getElem?_append_left lc]; exact hc0, hoc⟩
 obtain ⟨k, o1, b1, b2, b3⟩ := below_ld hx hl hC1 (n := 10) (by omega) (by omega)
 have b1' : LD S 30 [.ptr c 0 0 3, .t (I 10)] (σ ++ [V.Obj.cells [V.t .nils] 0 0, V.Obj.cells [V.t .nils] 0 0]) = some (.t (I k), (σ ++ [V.Obj.cells [V.t .nils] 0 0, V.Obj.cells [V.t .nils] 0 0]).set c o1) := b1
 have hC2 := hC1.set b3
 obtain ⟨y, o2, d1, d2, d3⟩ := below_ld hx hl hC2 (n := 60) (by omega) (by omega)
 have hC3 := hC2.set d3
 rw [List.set_set] at hC3 d1
 have d1' : LD S 30 [.ptr c 0 0 3, .t (I 60)] ((σ ++ [V.Obj.cells [V.t .nils] 0 0, V.Obj.cells [V.t .nils] 0 0]).set c o1) = some (.t (I y), (σ ++ [V.Obj.cells [V.t .nils] 0 0, V.Obj.cells [V.t .nils] 0 0]).set c o2) := d1
 obtain ⟨gx, t, w, ns, σ1, p1, p2, p3, p4, p5⟩ := tree8_ld hP hx hl hC3
 have q0 : σ1[σ.length]? = some (.cells [.t .nils] 0 0) := by rw [p5 _ (by simp) (by omega), List.getElem?_set_ne (by omega), getA]; rfl
 have q1 : σ1[σ.length + 1]? = some (.cells [.t .nils] 0 0) := by rw [p5 _ (by simp) (by omega), List.getElem?_set_ne (by omega), getB]; rfl
 have q2 : ∀ j, j < σ.length → j ≠ c → σ1[j]? = σ[j]? := fun j hj hn => by rw [p5 j (by simp; omega) hn, List.getElem?_set_ne (Ne.symm hn), List.getElem?_append_left hj]
 clear p5
 have l1 := lt_of_get q1
 repeat apply wS
 refine wR (by simp [b1']; constructor <;> rfl) ?_
 try simp only [tq]
 repeat apply wS
 refine wR (by simp [d1']; constructor <;> rfl) ?_
 try simp only [tq]
 repeat apply wS
 refine wR (by simp [p1, getA, setA, getB, setB, fillV, setRange, setRange1]; constructor <;> rfl) ?_
 try simp only [tq]
 obtain ⟨g, hg⟩ := appN p2 p3 (σ1.length + 2)
 have hg1 : appendV S.ty (σ1 ++ [.cells [.t gx] 0 0, .cells [.t w] 0 0, .cells [] 0 0]) [29, 29] (.sl (σ1.length + 2) 0 0 0 6) (.t w) = some (.sl (σ1.length + 2) g 0 ns.length 6, σ1 ++ [.cells [.t gx] 0 0, .cells [.t w] 0 0, .cells (flatV (ns.map toV)) g 0]) := by
  have := hg (σ1 ++ [.cells [.t gx] 0 0, .cells [.t w] 0 0]) (by simp)
  simpa using this
 repeat apply wS
 refine wR (by simp [getA, getB, hg1, sliceCells, repZero, chunk, fillV, setRange, setRange1, buildV, fieldSizes]; constructor <;> rfl) ?_
 try simp only [tq]
 have f1 : (σ1 ++ [V.Obj.cells [V.t gx] 0 0, V.Obj.cells [V.t w] 0 0, V.Obj.cells (flatV (List.map toV ns)) g 0, V.Obj.cells [V.sl (List.length σ1 + 2) g 0 ns.length 6] 0 0])[σ1.length]? = some (.cells [.t gx] 0 0) := by rw [getA]; rfl
 have f2 : (σ1 ++ [V.Obj.cells [V.t gx] 0 0, V.Obj.cells [V.t w] 0 0, V.Obj.cells (flatV (List.map toV ns)) g 0, V.Obj.cells [V.sl (List.length σ1 + 2) g 0 ns.length 6] 0 0])[σ1.length + 2]? = some (.cells (flatV (List.map toV ns)) g 0) := by rw [getB]; rfl
 have f3 : (σ1 ++ [V.Obj.cells [V.t gx] 0 0, V.Obj.cells [V.t w] 0 0, V.Obj.cells (flatV (List.map toV ns)) g 0, V.Obj.cells [V.sl (List.length σ1 + 2) g 0 ns.length 6] 0 0])[σ1.length + 3]? = some (.cells [V.sl (List.length σ1 + 2) g 0 ns.length 6] 0 0) := by rw [getB]; rfl
 have f4 : (σ1 ++ [V.Obj.cells [V.t gx] 0 0, V.Obj.cells [V.t w] 0 0, V.Obj.cells (flatV (List.map toV ns)) g 0, V.Obj.cells [V.sl (List.length σ1 + 2) g 0 ns.length 6] 0 0])[σ.length]? = some (.cells [.t .nils] 0 0) := by rw [List.getElem?_append_left (by omega)]; exact q0
 have f5 : (σ1 ++ [V.Obj.cells [V.t gx] 0 0, V.Obj.cells [V.t w] 0 0, V.Obj.cells (flatV (List.map toV ns)) g 0, V.Obj.cells [V.sl (List.length σ1 + 2) g 0 ns.length 6] 0 0])[σ.length + 1]? = some (.cells [.t .nils] 0 0) := by rw [List.getElem?_append_left (by omega)]; exact q1
 have f6 : ∀ j, j < σ.length → j ≠ c → (σ1 ++ [V.Obj.cells [V.t gx] 0 0, V.Obj.cells [V.t w] 0 0, V.Obj.cells (flatV (List.map toV ns)) g 0, V.Obj.cells [V.sl (List.length σ1 + 2) g 0 ns.length 6] 0 0])[j]? = σ[j]? := fun j hj hn => by rw [List.getElem?_append_left (by omega)]; exact q2 j hj hn
 clear q0 q1 q2 hg hg1 p1
 revert f1 f2 f3 f4 f5 f6
 generalize (σ1 ++ [V.Obj.cells [V.t gx] 0 0, V.Obj.cells [V.t w] 0 0, V.Obj.cells (flatV (List.map toV ns)) g 0, V.Obj.cells [V.sl (List.length σ1 + 2) g 0 ns.length 6] 0 0]) = σ2
 intro f1 f2 f3 f4 f5 f6
 generalize σ1.length = p at l1 f1 f2 f3
 have g3 := lt_of_get f3
 have hfit : Fit60 ns := ⟨p3, fun n hn => ⟨(p4 n hn).1, by have := (p4 n hn).2; omega⟩⟩
 repeat apply wS
 refine wR (by simp [f1, f2, f3]; constructor <;> rfl) ?_
 try simp only [tq]
 by_cases c1 : ns.length = 0
 ·repeat apply wS
  refine wC (t := true) (by simp [c1]) ?_
  simp only [iq]
  have z1 : ∀ o, (σ2.set σ.length o)[p]? = some (.cells [.t gx] 0 0) := fun o => by rw [List.getElem?_set_ne (by omega)]; exact f1
  have z2 : ∀ o, (σ2.set σ.length o)[p + 3]? = some (.cells [V.sl (p + 2) g 0 ns.length 6] 0 0) := fun o => by rw [List.getElem?_set_ne (by omega)]; exact f3
  have z3 : ∀ o o2, ((σ2.set σ.length o).set (σ.length + 1) o2)[p]? = some (.cells [.t gx] 0 0) := fun o o2 => by rw [List.getElem?_set_ne (by omega)]; exact z1 o
  have z4 : ∀ o o2, ((σ2.set σ.length o).set (σ.length + 1) o2)[p + 3]? = some (.cells [V.sl (p + 2) g 0 ns.length 6] 0 0) := fun o o2 => by rw [List.getElem?_set_ne (by omega)]; exact z2 o
  have z5 : ∀ o, (σ2.set σ.length o)[σ.length + 1]? = some (.cells [.t .nils] 0 0) := fun o => by rw [List.getElem?_set_ne (by omega)]; exact f5
  have lq := lt_of_get f5
  have k4 : ∀ o o2, ((σ2.set σ.length o).set (σ.length + 1) o2)[σ.length]? = some o := fun o o2 => by rw [List.getElem?_set_ne (by omega), List.getElem?_set_self (by omega)]
  have k5 : ∀ o o2, ((σ2.set σ.length o).set (σ.length + 1) o2)[σ.length + 1]? = some o2 := fun o o2 => List.getElem?_set_self (by simp; omega)
  repeat apply wS
  refine W_regD (fun _ => true) rfl rfl rfl (fun b hb => by
   simp (maxDischargeDepth := 12) [runOpsD, loadOf, chkH, live_all, okL_live, okL_nil, okL_cons, okAt_load, f1, f3, f4, f5, z1, z2, z3, z4, z5, fillV, setRange, setRange1]
   constructor <;> rfl) ?_
  try simp only [tq]
  refine W_ret ?_
  refine ⟨trivial, .tup [.t (.agg [gx]), .t (.str t), .agg [.sl (p + 2) g 0 ns.length 6]], (by simp [Tryz.f26, k4, k5, mkAgg, allT]; done), gx, t, p + 2, g, (ns.map toV), ns, rfl, ⟨⟨0, Nat.zero_le _, by rw [List.getElem?_set_ne (by omega), List.getElem?_set_ne (by omega)]; exact f2⟩, AllV.of _ ns⟩, hfit, fun j hj hn => by rw [List.getElem?_set_ne (by omega), List.getElem?_set_ne (by omega)]; exact f6 j hj hn⟩
 ·repeat apply wS
  refine wC (t := false) (by simp [c1]) ?_
  simp only [iq]
  refine W_skip ?_
  try simp only [tq]
  obtain ⟨i, hi, hm⟩ : ∃ i : Nat, i < ns.length ∧ (y : Int).tmod ns.length = (i : Int) := ⟨y % ns.length, Nat.mod_lt _ (by omega), (Int.ofNat_tmod y ns.length).symm⟩
  repeat apply wS
  refine wR (by simp [f1, f2, f3, c1, hm]; constructor <;> rfl) ?_
  try simp only [tq]
  repeat apply wS
  refine wR (by simp; constructor <;> rfl) ?_
  try simp only [tq]
  repeat apply wS
  refine W.mono (Q := fun e st τ => e = .normal ∧ ∃ ms ns' vs, st.vars = (0, .ptr c 0 0 3) :: (2, .ptr σ.length 0 0 1) :: (3, .t (.str [])) :: (4, .ptr (σ.length + 1) 0 0 1) :: (5, .t (I k)) :: (6, .t (I y)) :: (7, .ptr p 0 0 1) :: (8, .t (.str t)) :: (9, .ptr (p + 1) 0 0 1) :: (10, .ptr (p + 3) 0 0 1) :: vs ∧ τ[p]? = some (.cells [.t gx] 0 0) ∧ τ[p + 3]? = some (.cells [V.sl (p + 2) g 0 ns.length 6] 0 0) ∧ τ[σ.length]? = some (.cells [.t .nils] 0 0) ∧ τ[σ.length + 1]? = some (.cells [.t .nils] 0 0) ∧ (∀ j, j < σ.length → j ≠ c → τ[j]? = σ[j]?) ∧ (∀ o1 o2, AtV ((τ.set σ.length o1).set (σ.length + 1) o2) (p + 2) g ms ns') ∧ ns'.length = ns.length ∧ Fit60 ns') ?_ (fun e st' τ' hq => ?_)
  ·repeat apply wS
   refine W_block ?_
   obtain ⟨n, hn⟩ := X.get_of_lt hi
   have hmn : (ns.map toV)[i]? = some (toV n) := by rw [List.getElem?_map, hn]; rfl
   have hfl : (flatV (ns.map toV)).length = ns.length * 6 := by rw [flatV_len, List.length_map]
   have hi6 : ∀ j, j < 6 → i * 6 + j + 1 ≤ ns.length * 6 := fun j hj => by omega
   have h60 := hi6 0 (by omega)
   have h61 := hi6 1 (by omega)
   have h62 := hi6 2 (by omega)
   have h64 := hi6 4 (by omega)
   have h65 := hi6 5 (by omega)
   simp only [Nat.add_zero] at h60
   have g2 := lt_of_get f2
   have done : ∀ (j : Nat) (v : V) (m' : Nv) (n' : N) (σ3 : Store), j < 6 → m'.cs = (toV n).cs.set j v → (∀ τ : Store, (∀ r, p + 2 < r → r < σ3.length → τ[r]? = σ3[r]?) → NvOk τ m' n') → n'.args.length ≤ 1000 → n'.kids.length ≤ 61 → σ2.length ≤ σ3.length → (∀ r, r < σ2.length → σ3[r]? = σ2[r]?) →
     ∃ ms ns', (∀ o1 o2, AtV (((σ3.set (p + 2) (.cells ((flatV (ns.map toV)).set (i * 6 + j) v) g g)).set σ.length o1).set (σ.length + 1) o2) (p + 2) g ms ns') ∧ (σ3.set (p + 2) (.cells ((flatV (ns.map toV)).set (i * 6 + j) v) g g))[p]? = some (.cells [.t gx] 0 0) ∧ (σ3.set (p + 2) (.cells ((flatV (ns.map toV)).set (i * 6 + j) v) g g))[p + 3]? = some (.cells [V.sl (p + 2) g 0 ns.length 6] 0 0) ∧ (σ3.set (p + 2) (.cells ((flatV (ns.map toV)).set (i * 6 + j) v) g g))[σ.length]? = some (.cells [.t .nils] 0 0) ∧ (σ3.set (p + 2) (.cells ((flatV (ns.map toV)).set (i * 6 + j) v) g g))[σ.length + 1]? = some (.cells [.t .nils] 0 0) ∧ (∀ r, r < σ.length → r ≠ c → (σ3.set (p + 2) (.cells ((flatV (ns.map toV)).set (i * 6 + j) v) g g))[r]? = σ[r]?) ∧ ns'.length = ns.length ∧ Fit60 ns' := by
    intro j v m' n' σ3 hj hm' hok h1 h2 h3 h4
    have hne : ∀ o r, r ≠ p + 2 → r < σ2.length → (σ3.set (p + 2) o)[r]? = σ2[r]? := fun o r hr hl => by rw [List.getElem?_set_ne (Ne.symm hr)]; exact h4 r hl
    refine ⟨(ns.map toV).set i m', ns.set i n', fun o1 o2 => ⟨⟨g, Nat.le_refl _, by rw [List.getElem?_set_ne (by omega), List.getElem?_set_ne (by omega), flatV_set hmn hj hm']; exact List.getElem?_set_self (by omega)⟩, ?_⟩, by rw [hne _ _ (by omega) (by omega)]; exact f1, by rw [hne _ _ (by omega) (by omega)]; exact f3, by rw [hne _ _ (by omega) (by omega)]; exact f4, by rw [hne _ _ (by omega) (by omega)]; exact f5, fun r hr hn => by rw [hne _ _ (by omega) (by omega)]; exact f6 r hr hn, by simp, by simpa using p3, ?_⟩
    ·exact AllV.set (hok _ (fun r hr _ => by rw [List.getElem?_set_ne (by omega), List.getElem?_set_ne (by omega), List.getElem?_set_ne (by omega)])) (AllV.of _ ns) i
    ·intro z hz
     rcases List.mem_or_eq_of_mem_set hz with q | rfl
     ·exact hfit.2 z q
     ·exact ⟨h1, h2⟩
   have hnf := hfit.2 n (List.mem_of_getElem? hn)
   have hp60 : ∀ m, ns[i]? = some m → m.kids.length ≤ 60 := fun m hm => (p4 m (List.mem_of_getElem? hm)).2
   repeat apply wS
   refine wR (by simp; constructor <;> rfl) ?_
   try simp only [tq]
   by_cases e0 : k = 0
   ·subst e0
    repeat apply wS
    refine wC (t := true) (by simp) ?_
    simp only [iq]
    repeat apply wS
    refine wR (by simp [f1, f2, f3, hfl, h60, hi, setRange, setRange1]; constructor <;> rfl) ?_
    try simp only [tq]
    obtain ⟨ms, ns', r1, r2, r3, r4, r5, r6, r7, r8⟩ := done 0 (.t (I (IntKind.i64.wrap ((y : Int).tmod 4 - 1)))) { toV n with rule := IntKind.i64.wrap ((y : Int).tmod 4 - 1) } { n with rule := IntKind.i64.wrap ((y : Int).tmod 4 - 1) } σ2 (by omega) rfl (fun τ _ => ⟨rfl, rfl, rfl, rfl, .inl rfl, .inl rfl⟩) hnf.1 hnf.2 (Nat.le_refl _) (fun r _ => rfl)
    exact ⟨trivial, ms, ns', _, rfl, r2, r3, r4, r5, r6, r1, r7, r8⟩
   ·repeat apply wS
    refine wC (t := false) (by simp [show ¬ (k : Int) = 0 by omega, e0]) ?_
    simp only [iq]
    repeat apply wS
    refine wR (by simp; constructor <;> rfl) ?_
    try simp only [tq]
    by_cases e1 : k = 1
    ·subst e1
     repeat apply wS
     refine wC (t := true) (by simp) ?_
     simp only [iq]
     repeat apply wS
     refine wR (by simp [f1, f2, f3, hfl, h61, hi, setRange, setRange1]; constructor <;> rfl) ?_
     try simp only [tq]
     obtain ⟨ms, ns', r1, r2, r3, r4, r5, r6, r7, r8⟩ := done 1 (.t (I ((y : Int).tmod 4))) { toV n with alt := (y : Int).tmod 4 } { n with alt := (y : Int).tmod 4 } σ2 (by omega) rfl (fun τ _ => ⟨rfl, rfl, rfl, rfl, .inl rfl, .inl rfl⟩) hnf.1 hnf.2 (Nat.le_refl _) (fun r _ => rfl)
     exact ⟨trivial, ms, ns', _, rfl, r2, r3, r4, r5, r6, r1, r7, r8⟩
    ·repeat apply wS
     refine wC (t := false) (by simp [show ¬ (k : Int) = 1 by omega, e1]) ?_
     simp only [iq]
     repeat apply wS
     refine wR (by simp; constructor <;> rfl) ?_
     try simp only [tq]
     by_cases e2 : k = 2
     ·subst e2
      repeat apply wS
      refine wC (t := true) (by simp) ?_
      simp only [iq]
      repeat apply wS
      refine wR (by simp [f1, f2, f3, hfl, h64, hi, setRange, setRange1]; constructor <;> rfl) ?_
      try simp only [tq]
      obtain ⟨ms, ns', r1, r2, r3, r4, r5, r6, r7, r8⟩ := done 4 (.t (I (IntKind.i64.wrap ((y : Int).tmod 9 - 1)))) { toV n with to := IntKind.i64.wrap ((y : Int).tmod 9 - 1) } { n with to := IntKind.i64.wrap ((y : Int).tmod 9 - 1) } σ2 (by omega) rfl (fun τ _ => ⟨rfl, rfl, rfl, rfl, .inl rfl, .inl rfl⟩) hnf.1 hnf.2 (Nat.le_refl _) (fun r _ => rfl)
      exact ⟨trivial, ms, ns', _, rfl, r2, r3, r4, r5, r6, r1, r7, r8⟩
     ·repeat apply wS
      refine wC (t := false) (by simp [show ¬ (k : Int) = 2 by omega, e2]) ?_
      simp only [iq]
      repeat apply wS
      refine wR (by simp; constructor <;> rfl) ?_
      try simp only [tq]
      by_cases e3 : k = 3
      ·subst e3
       repeat apply wS
       refine wC (t := true) (by simp) ?_
       simp only [iq]
       have a2 : ∀ o, (σ2 ++ [o])[p + 2]? = some (.cells (flatV (ns.map toV)) g 0) := fun o => by rw [List.getElem?_append_left g2]; exact f2
       have a3 : ∀ o, (σ2 ++ [o])[p + 3]? = some (.cells [V.sl (p + 2) g 0 ns.length 6] 0 0) := fun o => by rw [List.getElem?_append_left g3]; exact f3
       have s3 : ∀ o o2, ((σ2 ++ [o]).set (p + 2) o2)[p + 3]? = some (.cells [V.sl (p + 2) g 0 ns.length 6] 0 0) := fun o o2 => by rw [List.getElem?_set_ne (by omega)]; exact a3 o
       have hdk : (flatV (ns.map toV))[i * 6 + 5]? = some (V.t (L n.kids)) := by rw [flatV_get hmn (by omega)]; rfl
       obtain ⟨g', hga⟩ := appendA n.kids (by have := hnf.2; omega) σ2.length
       have ha1 := hga σ2 rfl
       have ha2 : ∀ v : Int, appendV S.ty (σ2 ++ [.cells (ints n.kids) g' 0]) [35, 35] (.sl σ2.length g' 0 n.kids.length 1) (.t (.list [.agg [I v]])) = some (.sl σ2.length (g' + 1) 0 (n.kids.length + 1) 1, σ2 ++ [.cells (ints (n.kids ++ [v])) (g' + 1) 0]) := fun v => by
        have := appendI (σ := σ2 ++ [.cells (ints n.kids) g' 0]) (p := σ2.length) (g := g') (w := 0) (old := n.kids) (l := [v]) (by rw [X.getA]; rfl) (by have := hnf.2; simp; omega) (by simp)
        rw [X.setA] at this
        exact this
       repeat apply wS
       refine W_regD (fun b => memN 9 (stops b 18)) (by kernel_rfl) rfl rfl (fun b hb => by
        simp (maxDischargeDepth := 12) [runOpsD, loadOf, chkH, live_all, okL_live, okL_nil, okL_cons, okAt_load, hb, f2, f3, a2, a3, s3, hdk, hfl, hi, h65, ha1, ha2, sliceCells, fillV, repZero, chunk, setRange, setRange1]
        constructor <;> rfl) ?_
       try simp only [tq]
       obtain ⟨ms, ns', r1, r2, r3, r4, r5, r6, r7, r8⟩ := done 5 (.sl σ2.length (g' + 1) 0 (n.kids.length + 1) 1) { toV n with kids := .sl σ2.length (g' + 1) 0 (n.kids.length + 1) 1 } { n with kids := n.kids ++ [IntKind.i64.wrap ((y : Int).tmod 7 - 1)] } (σ2 ++ [.cells (ints (n.kids ++ [IntKind.i64.wrap ((y : Int).tmod 7 - 1)])) (g' + 1) 0]) (by omega) rfl (fun τ hτ => ⟨rfl, rfl, rfl, rfl, .inl rfl, .inr ⟨⟨σ2.length, g' + 1, n.kids ++ [IntKind.i64.wrap ((y : Int).tmod 7 - 1)]⟩, rfl, by simp [Sl.v], ⟨0, Nat.zero_le _, by rw [hτ _ (by simp only; omega) (by simp), X.getA]; rfl⟩⟩⟩) hnf.1 (by have := hp60 n hn; simp; omega) (by simp) (fun r hr => List.getElem?_append_left hr)
       exact ⟨trivial, ms, ns', _, rfl, r2, r3, r4, r5, r6, r1, r7, r8⟩
      ·repeat apply wS
       refine wC (t := false) (by simp [show ¬ (k : Int) = 3 by omega, e3]) ?_
       simp only [iq]
       repeat apply wS
       refine wR (by simp; constructor <;> rfl) ?_
       try simp only [tq]
       by_cases e4 : k = 4
       ·subst e4
        repeat apply wS
        refine wC (t := true) (by simp) ?_
        simp only [iq]
        have a2 : ∀ o, (σ2 ++ [o])[p + 2]? = some (.cells (flatV (ns.map toV)) g 0) := fun o => by rw [List.getElem?_append_left g2]; exact f2
        repeat apply wS
        refine wR (by simp [f1, f2, f3, hfl, h62, hi, a2, setRange, setRange1, sliceCells, repZero, chunk, fillV]; constructor <;> rfl) ?_
        try simp only [tq]
        obtain ⟨ms, ns', r1, r2, r3, r4, r5, r6, r7, r8⟩ := done 2 (.sl σ2.length 0 0 1 1) { toV n with args := .sl σ2.length 0 0 1 1 } { n with args := [(y : Int).tmod 5] } (σ2 ++ [.cells [.t (I ((y : Int).tmod 5))] 0 0]) (by omega) rfl (fun τ hτ => ⟨rfl, rfl, rfl, rfl, .inr ⟨⟨σ2.length, 0, [(y : Int).tmod 5]⟩, rfl, rfl, ⟨0, Nat.le_refl _, by rw [hτ _ (by simp only; omega) (by simp), X.getA]; rfl⟩⟩, .inl rfl⟩) (by simp) hnf.2 (by simp) (fun r hr => List.getElem?_append_left hr)
        exact ⟨trivial, ms, ns', _, rfl, r2, r3, r4, r5, r6, r1, r7, r8⟩
       ·repeat apply wS
        refine wC (t := false) (by simp [show ¬ (k : Int) = 4 by omega, e4]) ?_
        simp only [iq]
        refine W_skip ?_
        try simp only [tq]
        exact ⟨trivial, ns.map toV, ns, _, rfl, f1, f3, f4, f5, f6, fun o1 o2 => ⟨⟨0, Nat.zero_le _, by rw [List.getElem?_set_ne (by omega), List.getElem?_set_ne (by omega)]; exact f2⟩, AllV.of _ ns⟩, rfl, hfit⟩
  ·obtain ⟨rfl, ms, ns', vs, hv, h1, h3, h4, h5, h6, hat, hlen, hft⟩ := hq
   obtain ⟨vars2, scr2⟩ := st'
   simp only at hv
   subst hv
   try simp only [tq]
   rw [← hlen] at h3
   have z1 : ∀ o, (τ'.set σ.length o)[p]? = some (.cells [.t gx] 0 0) := fun o => by rw [List.getElem?_set_ne (by omega)]; exact h1
   have z2 : ∀ o, (τ'.set σ.length o)[p + 3]? = some (.cells [V.sl (p + 2) g 0 ns'.length 6] 0 0) := fun o => by rw [List.getElem?_set_ne (by omega)]; exact h3
   have z3 : ∀ o o2, ((τ'.set σ.length o).set (σ.length + 1) o2)[p]? = some (.cells [.t gx] 0 0) := fun o o2 => by rw [List.getElem?_set_ne (by omega)]; exact z1 o
   have z4 : ∀ o o2, ((τ'.set σ.length o).set (σ.length + 1) o2)[p + 3]? = some (.cells [V.sl (p + 2) g 0 ns'.length 6] 0 0) := fun o o2 => by rw [List.getElem?_set_ne (by omega)]; exact z2 o
   have z5 : ∀ o, (τ'.set σ.length o)[σ.length + 1]? = some (.cells [.t .nils] 0 0) := fun o => by rw [List.getElem?_set_ne (by omega)]; exact h5
   have lq := lt_of_get h5
   have k4 : ∀ o o2, ((τ'.set σ.length o).set (σ.length + 1) o2)[σ.length]? = some o := fun o o2 => by rw [List.getElem?_set_ne (by omega), List.getElem?_set_self (by omega)]
   have k5 : ∀ o o2, ((τ'.set σ.length o).set (σ.length + 1) o2)[σ.length + 1]? = some o2 := fun o o2 => List.getElem?_set_self (by simp; omega)
   repeat apply wS
   refine W_regD (fun _ => true) rfl rfl rfl (fun b hb => by
    simp (maxDischargeDepth := 12) [runOpsD, loadOf, chkH, live_all, okL_live, okL_nil, okL_cons, okAt_load, h1, h3, h4, h5, z1, z2, z3, z4, z5, fillV, setRange, setRange1]
    constructor <;> rfl) ?_
   try simp only [tq]
   refine W_ret ?_
   refine ⟨trivial, .tup [.t (.agg [gx]), .t (.str t), .agg [.sl (p + 2) g 0 ns'.length 6]], (by simp [Tryz.f26, k4, k5, mkAgg, allT]; done), gx, t, p + 2, g, ms, ns', rfl, hat _ _, hft, fun j hj hn => by rw [List.getElem?_set_ne (by omega), List.getElem?_set_ne (by omega)]; exact h6 j hj hn⟩
end Y
namespace Y
open X
attribute [-simp] getElem?_pos
/-! ### The draws -/
theorem drawPair_ld (hP : PairsOk) {x : T} {l : List Int} (hx : BytesT x l) (hl : (l.length : Int) ≤ 1048576) :
  ∃ G t, (∀ σ, LD S 5 [.t x] σ = some (.t (.tup [G, .str t]), σ)) ∧ X.Good G ∧ bsB t = true ∧ t.length ≤ 8 := by
 suffices hh : ∃ v σ', LV S 5 [.t x] [] = some (v, σ') ∧ ∃ G t, v = .t (.tup [G, .str t]) ∧ X.Good G ∧ bsB t = true ∧ t.length ≤ 8 by
  obtain ⟨v, σ', h1, G, t, rfl, h2⟩ := hh
  exact ⟨G, t, fun σ => LD_pure (A := A5) (args := [.t x]) rfl rfl rfl h1 rfl σ, h2⟩
 obtain ⟨h0, hnew⟩ := new_lv hx hl [.cells [.t .nils] 0 0]
 have hC : CurAt ([V.Obj.cells [V.t .nils] 0 0] ++ [Cur x 0 h0]) 1 x l := ⟨_, rfl, 0, h0, rfl, by omega, by omega⟩
 obtain ⟨G, t, σ1, p1, p2, p3, p4, p5⟩ := pair_ld hP hx hl hC
 have hnew' : LD S 14 [.t x] [.cells [.t .nils] 0 0] = some (.ptr 1 0 0 3, [.cells [.t .nils] 0 0, Cur x 0 h0]) := hnew
 have p1' : LD S 15 [.ptr 1 0 0 3] [.cells [.t .nils] 0 0, Cur x 0 h0] = some (.t (.tup [G, .str t]), σ1) := p1
 have p2' := p2
 obtain ⟨SR, MK, VN, RA, n0, ps0, az0, gr, rfl, hgood⟩ := p2'
 have q0 : σ1[0]? = some (.cells [.t .nils] 0 0) := by rw [p5 0 (by simp) (by decide)]; rfl
 have lq := lt_of_get q0
 have q2 : ∀ o', (σ1.set 0 o')[0]? = some o' := fun o' => List.getElem?_set_self lq
 refine LV_bodyX (A := A5) rfl Tryz.func5 rfl ?_
 repeat apply wS
 refine wR (by simp; constructor <;> rfl) ?_
 try simp only [tq]
 repeat apply wS
 refine wR (by simp [hnew']; constructor <;> rfl) ?_
 try simp only [tq]
 repeat apply wS
 refine wR (by simp [p1', q0, fillV, setRange]; constructor <;> rfl) ?_
 try simp only [tq]
 refine W_ret ?_
 exact ⟨trivial, .t (.tup [.agg [.list (.agg [.str n0, ps0, az0] :: gr)], .str t]), (by simp [Tryz.f5, q2, mkAgg, allT]), _, t, rfl, p2, p3, p4⟩
theorem Vi.keep0 {σ τ : Store} (h0 : σ[0]? = some (.cells [.t .nils] 0 0)) (h : ∀ r, r ≠ 0 → r < σ.length → τ[r]? = σ[r]?) {v : V} {l : List Int} (hv : Vi σ v l) : Vi τ v l := by
 rcases hv with rfl | ⟨s, rfl, rfl, w, hw, hs⟩
 ·exact .inl rfl
 ·refine .inr ⟨s, rfl, rfl, w, hw, ?_⟩
  rw [h s.loc ?_ (lt_of_get hs)]
  ·exact hs
  ·intro e
   rw [e, h0] at hs
   simp only [Option.some.injEq, V.Obj.cells.injEq] at hs
   cases hl : s.l with
   | nil => rw [hl] at hs; simp [ints] at hs
   | cons a r => rw [hl] at hs; simp [ints] at hs
theorem AllV.keep0 {σ τ : Store} (h0 : σ[0]? = some (.cells [.t .nils] 0 0)) (h : ∀ r, r ≠ 0 → r < σ.length → τ[r]? = σ[r]?) {ms : List Nv} {ns : List N} (ha : AllV σ ms ns) : AllV τ ms ns := by
 induction ha with
 | nil => exact .nil
 | cons h1 h2 ih => exact .cons ⟨h1.rule, h1.alt, h1.fr, h1.to, h1.args.keep0 h0 h, h1.kids.keep0 h0 h⟩ ih
theorem AtV.keep0 {σ τ : Store} (h0 : σ[0]? = some (.cells [.t .nils] 0 0)) (h : ∀ r, r ≠ 0 → r < σ.length → τ[r]? = σ[r]?) {q g : Nat} {ms : List Nv} {ns : List N} (ha : AtV σ q g ms ns) : AtV τ q g ms ns := by
 obtain ⟨w, hw, hs⟩ := ha.get
 refine ⟨⟨w, hw, ?_⟩, ha.all.keep0 h0 h⟩
 rw [h q ?_ (lt_of_get hs)]
 ·exact hs
 ·intro e
  subst e
  rw [h0] at hs
  simp only [Option.some.injEq, V.Obj.cells.injEq] at hs
  have := congrArg List.length hs.1
  rw [flatV_len] at this
  simp at this
  omega
theorem drawSub_ld (hP : PairsOk) {x : T} {l : List Int} (hx : BytesT x l) (hl : (l.length : Int) ≤ 1048576) :
  ∃ ns k, (∀ σ, LD S 12 [.t x] σ = some (.t (.tup [encT ns, I k]), σ)) ∧ Fit60 ns := by
 suffices hh : ∃ v σ', LV S 12 [.t x] [] = some (v, σ') ∧ ∃ ns k, frz 40 σ' v = some (.tup [encT ns, I k]) ∧ Fit60 ns by
  obtain ⟨v, σ', h1, ns, k, h3, h2⟩ := hh
  exact ⟨ns, k, fun σ => LD_pure (A := A12) (args := [.t x]) rfl rfl rfl h1 h3 σ, h2⟩
 obtain ⟨h0, hnew⟩ := new_lv hx hl [.cells [.t .nils] 0 0]
 have hC : CurAt ([V.Obj.cells [V.t .nils] 0 0] ++ [Cur x 0 h0]) 1 x l := ⟨_, rfl, 0, h0, rfl, by omega, by omega⟩
 have hnew' : LD S 14 [.t x] [.cells [.t .nils] 0 0] = some (.ptr 1 0 0 3, [.cells [.t .nils] 0 0, Cur x 0 h0]) := hnew
 obtain ⟨k, o1, b1, b2⟩ := place_ld hx hl hC
 have b1' : LD S 25 [.ptr 1 0 0 3, .t (I 8)] [.cells [.t .nils] 0 0, Cur x 0 h0] = some (.t (I k), [.cells [.t .nils] 0 0, o1]) := b1
 have hC1 : CurAt [V.Obj.cells [V.t .nils] 0 0, o1] 1 x l := ⟨_, rfl, b2⟩
 obtain ⟨gx, t, q, g, ms, ns, σ1, p1, p2, p3, p4⟩ := any_ld hP hx hl hC1
 have q0 : σ1[0]? = some (.cells [.t .nils] 0 0) := by rw [p4 0 (by simp) (by decide)]; rfl
 have lq := lt_of_get q0
 refine LV_bodyX (A := A12) rfl Tryz.func12 rfl ?_
 repeat apply wS
 refine wR (by simp; constructor <;> rfl) ?_
 try simp only [tq]
 repeat apply wS
 refine wR (by simp [hnew']; constructor <;> rfl) ?_
 try simp only [tq]
 repeat apply wS
 refine wR (by simp [b1']; constructor <;> rfl) ?_
 try simp only [tq]
 repeat apply wS
 refine wR (by simp [p1, getA, setA, getB, setB, fillV, setRange, setRange1]; constructor <;> rfl) ?_
 try simp only [tq]
 have f1 : (σ1 ++ [V.Obj.cells [V.t gx] 0 0, V.Obj.cells [V.sl q g 0 ns.length 6] 0 0])[0]? = some (.cells [.t .nils] 0 0) := by rw [List.getElem?_append_left lq]; exact q0
 have f2 : (σ1 ++ [V.Obj.cells [V.t gx] 0 0, V.Obj.cells [V.sl q g 0 ns.length 6] 0 0])[σ1.length + 1]? = some (.cells [V.sl q g 0 ns.length 6] 0 0) := by rw [getB]; rfl
 have f3 : ∀ o, AtV ((σ1 ++ [V.Obj.cells [V.t gx] 0 0, V.Obj.cells [V.sl q g 0 ns.length 6] 0 0]).set 0 o) q g ms ns := fun o => p2.keep0 q0 fun r hr hl => by rw [List.getElem?_set_ne (Ne.symm hr), List.getElem?_append_left hl]
 have f4 : ∀ o, ((σ1 ++ [V.Obj.cells [V.t gx] 0 0, V.Obj.cells [V.sl q g 0 ns.length 6] 0 0]).set 0 o)[0]? = some o := fun o => List.getElem?_set_self (by simp)
 repeat apply wS
 refine wR (by simp [f1, f2, fillV, setRange, setRange1]; constructor <;> rfl) ?_
 try simp only [tq]
 refine W_ret ?_
 refine ⟨trivial, .tup [.agg [.sl q g 0 ns.length 6], .t (I k)], (by simp [Tryz.f12, f4]), ns, k, ?_, p3⟩
 have h38 := (f3 (.cells [.sl q g 0 ns.length 6] 0 0)).frz 35
 have h39 : frz 39 ((σ1 ++ [V.Obj.cells [V.t gx] 0 0, V.Obj.cells [V.sl q g 0 ns.length 6] 0 0]).set 0 (.cells [.sl q g 0 ns.length 6] 0 0)) (.agg [.sl q g 0 ns.length 6]) = some (encT ns) := by
  rw [frz_agg 38, frzs, h38]; rfl
 rw [frz, frzs, h39]
 rfl
end Y
namespace Y
open X
theorem big_ld {x : T} {l : List Int} (hx : BytesT x l) (σ : Store) : LD S 4 [.t x] σ = some (.t (B (decide ((1048576 : Int) < l.length))), σ) := by
 refine LD_pure (A := A4) (v := .t (B (decide ((1048576 : Int) < l.length)))) (σ0 := []) rfl rfl rfl ?_ rfl σ
 rcases hx with ⟨rfl, rfl⟩ | rfl
 ·refine LV_body (A := A4) rfl Tryz.func4 rfl ?_
  repeat apply wS
  refine wR (by simp; constructor <;> rfl) ?_
  try simp only [tq]
  repeat apply wS
  refine wR (by simp; constructor <;> rfl) ?_
  try simp only [tq]
  refine W_ret ?_
  try simp only [tq]
  simp [Tryz.f4]
 ·refine LV_body (A := A4) rfl Tryz.func4 rfl ?_
  repeat apply wS
  refine wR (by simp; constructor <;> rfl) ?_
  try simp only [tq]
  repeat apply wS
  refine wR (by simp; constructor <;> rfl) ?_
  try simp only [tq]
  refine W_ret ?_
  try simp only [tq]
  simp [Tryz.f4]
attribute [-simp] lenV idxV setRange getElem?_pos
/-! ### The law -/
def Fits (l : List N) : Prop := l.length ≤ 60 ∧ ∀ n ∈ l, n.fit
theorem kidsF_fit {f : Int → List N → Option (List N)} (hf : ∀ k l l', f k l = some l' → Fits l → Fits l') : ∀ (ks : List Int) (l : List N) (acc : List Int) (l' : List N) (ks' : List Int), kidsF f ks l acc = some (l', ks') → Fits l → Fits l' ∧ ks'.length = acc.length + ks.length
 | [], l, acc, l', ks', h, hl => by
  simp only [kidsF, Option.some.injEq, Prod.mk.injEq] at h
  obtain ⟨rfl, rfl⟩ := h
  exact ⟨hl, by simp⟩
 | k :: r, l, acc, l', ks', h, hl => by
  simp only [kidsF] at h
  split at h
  ·cases h
  ·rename_i l2 h2
   obtain ⟨h3, h4⟩ := kidsF_fit hf r l2 _ l' ks' h (hf _ _ _ h2 hl)
   refine ⟨h3, ?_⟩
   rw [h4]
   simp only [List.length_append, List.length_cons, List.length_nil]
   omega
theorem ex_fit {nodes : List N} {swap : Int} {g : List N → Option (List N)} (hn : ∀ n ∈ nodes, n.fit) (hg : ∀ l l', g l = some l' → Fits l → Fits l' ∧ l' ≠ []) :
  ∀ (n : Nat) (at_ : Int) (l l' : List N), ex nodes swap g n at_ l = some l' → Fits l → Fits l' ∧ l' ≠ [] := by
 intro n
 induction n with
 | zero => intro at_ l l' h; simp [ex] at h
 | succ n ih =>
  intro at_ l l' h hl
  simp only [ex] at h
  split at h
  ·exact hg _ _ h hl
  ·split at h
   ·cases h
   ·rename_i x hx
    split at h
    ·cases h
    ·rename_i l2 ks h2
     split at h
     ·rename_i h60
      cases h
      obtain ⟨h3, h4⟩ := kidsF_fit (fun k a b hh hf => (ih k a b hh hf).1) _ _ _ _ _ h2 hl
      have hxf := hn x (List.mem_of_getElem? hx)
      refine ⟨⟨by simpa using h60, ?_⟩, by simp⟩
      intro y hy
      rcases List.mem_append.1 hy with hy | hy
      ·exact h3.2 y hy
      ·simp only [List.mem_singleton] at hy
       subst hy
       refine ⟨hxf.1, ?_⟩
       show ks.length ≤ _
       rw [h4]
       simpa using hxf.2
     ·cases h
theorem fits_nil : Fits [] := ⟨by simp, by simp⟩
theorem sub_fit {l : List N} {at_ : Int} {r : List N} (hn : ∀ n ∈ l, n.fit) (h : sub l at_ = some r) : Fits r ∧ r ≠ [] := by
 unfold sub at h
 split at h
 ·exact ex_fit hn (fun _ _ hh => by cases hh) _ _ _ _ h fits_nil
 ·cases h
theorem Fit60.fits {ns : List N} (h : Fit60 ns) : Fits ns := ⟨h.1, fun n hn => ⟨by have := (h.2 n hn).1; omega, by have := (h.2 n hn).2; omega⟩⟩
theorem isTree_ne {x : T} {l : List N} (h : isTree x l) (hl : 1 ≤ l.length) : x = Ls l := by
 rcases h with h | ⟨_, rfl⟩
 ·exact h
 ·simp at hl
theorem law_lv (hP : PairsOk) {x : T} {l : List Int} (hx : BytesT x l) :
  ∃ σ', LV S 3 [.t x] [] = some (.t (B true), σ') := by
 refine LV_bodyE (A := A3) rfl Tryz.func3 rfl ?_
 have hbig := big_ld hx
 repeat apply wS
 refine wR (by simp; constructor <;> rfl) ?_
 try simp only [tq]
 repeat apply wS
 refine wR (by simp [hbig]; constructor <;> rfl) ?_
 try simp only [tq]
 by_cases c0 : (1048576 : Int) < l.length
 ·repeat apply wS
  refine wC (t := true) (by simp [c0]) ?_
  simp only [iq]
  repeat apply wS
  refine wR (by simp; constructor <;> rfl) ?_
  try simp only [tq]
  refine W_ret ?_
  try simp only [tq]
  simp [Tryz.f3]
 repeat apply wS
 refine wC (t := false) (by simp [c0]) ?_
 simp only [iq]
 refine W_skip ?_
 try simp only [tq]
 obtain ⟨G, t, d1, d2, d3, d4⟩ := drawPair_ld hP hx (by omega)
 obtain ⟨ns, pk, e1, e2⟩ := drawSub_ld hP hx (by omega)
 obtain ⟨SR, MK, VN, RA, n0, ps0, az0, gr, rfl, hgood⟩ := d2
 obtain ⟨o, f1, f2⟩ := first_ok hgood d3 (fr := 0) (to := t.length) (Nat.zero_le _) (Nat.le_refl _)
 have f1' : ∀ σ, LD S 6 [.t (.agg [.list (.agg [.str n0, ps0, az0] :: gr)]), .t (.str t), .t (.str n0), .t (.list []), .t (I 0), .t (I t.length)] σ = some (.t (firstT o), σ) := f1
 have hst := fun σ => start_ld n0 ps0 az0 gr σ
 repeat apply wS
 refine wR (by simp [d1, fillV, setRange]; constructor <;> rfl) ?_
 try simp only [tq]
 cases o with
 | none =>
  simp only [firstT] at f1'
  repeat apply wS
  refine wR (by simp [f1', hst, sliceCells, repZero, chunk, fillV, setRange]; constructor <;> rfl) ?_
  try simp only [tq]
  repeat apply wS
  refine wR (by simp; constructor <;> rfl) ?_
  try simp only [tq]
  repeat apply wS
  refine wC (t := true) (by simp) ?_
  simp only [iq]
  repeat apply wS
  refine wR (by simp [implSub_nil, fillV, setRange]; constructor <;> rfl) ?_
  try simp only [tq]
  repeat apply wS
  refine wR (by simp; constructor <;> rfl) ?_
  try simp only [tq]
  refine W_ret ?_
  try simp only [tq]
  simp [Tryz.f3]
 | some p =>
  obtain ⟨t12, hw, hno⟩ := f2 p rfl
  simp only [firstT] at f1'
  have hfit := whole_fit hw hno
  have hpos := hw.pos
  have h60 := hw.le
  have hnf : ∀ n ∈ p.1, n.fit := fun n hn => ⟨by have := (hfit n hn).1; omega, by have := (hfit n hn).2; omega⟩
  repeat apply wS
  refine wR (by simp [f1', hst, sliceCells, repZero, chunk, fillV, setRange]; constructor <;> rfl) ?_
  try simp only [tq]
  repeat apply wS
  refine wR (by simp; constructor <;> rfl) ?_
  try simp only [tq]
  repeat apply wS
  refine wC (t := false) (by simp) ?_
  simp only [iq]
  refine W_skip ?_
  try simp only [tq]
  repeat apply wS
  refine wR (by simp; constructor <;> rfl) ?_
  try simp only [tq]
  repeat apply wS
  refine W_block ?_
  refine W_loop (I := fun m st τ => ∃ k, m = p.1.length - k ∧ k ≤ p.1.length ∧ st.vars = [(0, .t x), (2, .t (B false)), (3, .ptr 0 0 0 1), (4, .t (.str t)), (5, .ptr 1 0 0 1), (6, .t (B true)), (9, .t (I k))] ∧ τ[0]? = some (.cells [.t (.list (.agg [.str n0, ps0, az0] :: gr))] 0 0) ∧ τ[1]? = some (.cells [.t (Ls p.1)] 0 0)) ?_ p.1.length _ _ ⟨0, rfl, Nat.zero_le _, by simp, rfl, rfl⟩
  rintro m ⟨vars, scr⟩ τ ⟨k, rfl, hk, hv, t0, t1⟩
  simp only at hv
  subst hv
  have l1 := lt_of_get t1
  repeat apply wS
  refine wR (by simp [t1, lenV]; constructor <;> rfl) ?_
  try simp only [tq]
  by_cases c1 : k < p.1.length
  ·repeat apply wS
   refine wC (t := true) (by simp [c1]) ?_
   simp only [iq]
   refine W_skip ?_
   try simp only [tq]
   repeat apply wS
   refine W_block ?_
   obtain ⟨b, y, s1, s2, s3, s4, s5, s6⟩ := sub_ok hw c1
   have hml : (seg p.1 b (k + 1) (-(b : Int))).length = k + 1 - b := seg_len (by omega) _
   have hmo : ∀ j, j < (seg p.1 b (k + 1) (-(b : Int))).length → NodeOk (mkK SR MK VN RA t) (.agg [.str n0, ps0, az0] :: gr) t (seg p.1 b (k + 1) (-(b : Int))) j := fun j hj => by
    have := NodeOk.seg s2 s3 (j := b + j) (by omega) (by omega) (hno (b + j) (by omega))
    rw [show b + j - b = j by omega] at this
    exact this
   have hlast : (seg p.1 b (k + 1) (-(b : Int)))[k - b]? = some (Y.shift (-(b : Int)) y) := seg_get s1 (by omega) s2
   generalize seg p.1 b (k + 1) (-(b : Int)) = ms at s4 s5 s6 hml hmo hlast
   have mfit := whole_fit s5 hmo
   have mpos := s5.pos
   have m60 := s5.le
   have mnf : ∀ n ∈ ms, n.fit := fun n hn => ⟨by have := (mfit n hn).1; omega, by have := (mfit n hn).2; omega⟩
   obtain ⟨z, i1, i2⟩ := implSub_ld p.1 (k : Int) (by omega) hnf
   rw [s4] at i1 i2
   have := isTree_ne (l := ms) i1 mpos
   subst this
   simp only [Option.isSome_some] at i2
   obtain ⟨z, w1, w2⟩ := implSwp_ld p.1 ms (k : Int) (by omega) hnf (by omega) mnf
   rw [s6] at w1 w2
   have := isTree_ne (l := p.1) w1 hpos
   subst this
   simp only [Option.isSome_some] at w2
   have hto := fun σ => treeOk_ld (mkK_ok hgood.sets hgood.marks hgood.names hgood.rules t) hgood.few t12 hgood.gok mpos m60 hmo (fun n hn => by have := (mfit n hn).2; omega) σ
   have hst := fun σ => sameTree_ld (x := Ls p.1) (y := Ls p.1) (l := p.1) (.inl rfl) (.inl rfl) (by omega) hnf σ
   have hix : idxV 6 (.t (Ls ms)) ((ms.length : Int) - 1) = some (.t (.snap (encC (Y.shift (-(b : Int)) y)))) := by
    rw [show (ms.length : Int) - 1 = ((k - b : Nat) : Int) by omega]
    simp [idxV, hlast]
   have hiy : idxV 6 (.t (Ls p.1)) (k : Int) = some (.t (.snap (encC y))) := by simp [idxV, s2]
   have a0 : ∀ o, (τ ++ o)[0]? = some (.cells [.t (.list (.agg [.str n0, ps0, az0] :: gr))] 0 0) := fun o => by rw [List.getElem?_append_left (by omega)]; exact t0
   have a1 : ∀ o, (τ ++ o)[1]? = some (.cells [.t (Ls p.1)] 0 0) := fun o => by rw [List.getElem?_append_left l1]; exact t1
   have lms : ∀ (σ : Store) (e : TypeId), lenV σ (.slice e) (.t (Ls ms)) = some (ms.length : Int) := fun σ e => by simp [lenV]
   repeat apply wS
   refine wR (by simp [t1, i2, X.getA, X.setA, fillV, setRange]; constructor <;> rfl) ?_
   try simp only [tq]
   repeat apply wS
   refine wR (by simp [X.getA, X.setA, X.getB, X.setB, fillV, setRange, hix, lms, IntWalk.i64_in ((ms.length : Int) - 1) (by omega)]; constructor <;> rfl) ?_
   try simp only [tq]
   repeat apply wS
   refine wR (by simp [X.getA, X.getB, a0, a1, hto, hiy, Y.shift]; constructor <;> rfl) ?_
   try simp only [tq]
   repeat apply wS
   refine wC (t := false) (by simp) ?_
   simp only [iq]
   refine W_skip ?_
   try simp only [tq]
   repeat apply wS
   refine wR (by simp [X.getA, X.getB, X.getC, X.setA, X.setB, Y.setC, a0, a1, w2, fillV, setRange]; constructor <;> rfl) ?_
   try simp only [tq]
   repeat apply wS
   refine wR (by simp [X.getA, X.getB, X.getC, a0, a1, hst]; constructor <;> rfl) ?_
   try simp only [tq]
   repeat apply wS
   refine wC (t := false) (by simp) ?_
   simp only [iq]
   refine W_skip ?_
   try simp only [tq]
   repeat apply wS
   refine wR (by simp [IntWalk.i64_in ((k : Int) + 1) (by omega)]; constructor <;> rfl) ?_
   try simp only [tq]
   exact ⟨p.1.length - (k + 1), by omega, k + 1, rfl, c1, by simp, a0 _, a1 _⟩
  ·repeat apply wS
   refine wC (t := false) (by simp [c1]) ?_
   simp only [iq]
   repeat apply wS
   refine W_exit ?_
   try simp only [tq, if_true]
   have hnfs := e2.fits.2
   obtain ⟨u, u1, u2⟩ := implSub_ld ns pk (by have := e2.1; omega) hnfs
   obtain ⟨v, v1, v2⟩ := specSub_ld ns pk (by have := e2.1; omega) hnfs
   have hrf : Fits ((sub ns pk).getD []) := by
    cases hs : sub ns pk with
    | none => exact fits_nil
    | some r => exact (sub_fit hnfs hs).1
   have hst := fun σ => sameTree_ld u1 v1 (by have := hrf.1; omega) hrf.2 σ
   repeat apply wS
   refine wR (by simp [e1, X.getA, X.setA, fillV, setRange]; constructor <;> rfl) ?_
   try simp only [tq]
   repeat apply wS
   refine wR (by simp [X.getA, X.getB, X.setA, X.setB, u2, fillV, setRange]; constructor <;> rfl) ?_
   try simp only [tq]
   repeat apply wS
   refine wR (by simp [X.getA, X.getB, X.getC, X.setA, X.setB, Y.setC, v2, fillV, setRange]; constructor <;> rfl) ?_
   try simp only [tq]
   repeat apply wS
   refine wR (by simp [X.getA, X.getB, X.getC, hst, eqOp]; constructor <;> rfl) ?_
   try simp only [tq]
   refine W_ret ?_
   try simp only [tq]
   simp [Tryz.f3]
end Y
