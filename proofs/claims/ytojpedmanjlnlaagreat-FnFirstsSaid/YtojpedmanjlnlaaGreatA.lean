/- A part of the proof. No statement of the claim is in it. -/
import Derived.Test.YtojpedmanjlnlaaGreatSc
import Derived.Test.YtojpedmanjlnlaaGreatTps
import Derived.Test.YtojpedmanjlnlaaGreatVd
set_option maxRecDepth 100000
set_option maxHeartbeats 4000000
set_option linter.all false
open Go Go.V Go.Proofs
namespace X
attribute [-simp] getElem?_pos
/-! ### A grammar of the list, as l06Any draws it -/
theorem gram_ld {Q : T → Prop} (hP : qif Q) {x : T} {l : List Int} (hx : BytesT x l) (hl : (l.length : Int) ≤ 1048576) {σ : Store} {c : Nat} (hC : CurAt σ c x l) :
  ∃ i s le sa sb e1 G e2 o b1 b2 b3, i < 13 ∧ PairOk i s le sa sb e1 G e2 ∧ Q G ∧ LD S 50 [.ptr c 0 0 3] σ = some (.t G, σ.set c o ++ [b1, b2, b3]) ∧ CurO x l o := by
 have lc := hC.lt
 have hC2 : CurAt (σ ++ [V.Obj.cells [V.t .nils] 0 0]) c x l := by
  obtain ⟨oc, q1, q2⟩ := hC
  exact ⟨oc, by rw [List.getElem?_append_left lc]; exact q1, q2⟩
 obtain ⟨r, o, p1, p2, p3⟩ := qeh hx hl hC2 (n := 13) (by omega) (by omega)
 obtain ⟨s, le, sa, sb, e1, G, e2, hp, hQ⟩ := hP r p2
 have p1' : LD S 31 [.ptr c 0 0 3, .t (I 13)] (σ ++ [V.Obj.cells [V.t .nils] 0 0]) = some (.t (I r), (σ ++ [V.Obj.cells [V.t .nils] 0 0]).set c o) := p1
 obtain ⟨SR, MK, VN, RA, n0, ps0, az0, gr, rfl, hgood⟩ := hp.good
 suffices hh : ∃ v σ', LV S 50 [.ptr c 0 0 3] σ = some (v, σ') ∧ ∃ b1 b2 b3, v = .t (.agg [.list (.agg [.str n0, ps0, az0] :: gr)]) ∧ σ' = σ.set c o ++ [b1, b2, b3] by
  obtain ⟨v, σ', q1, b1, b2, b3, rfl, rfl⟩ := hh
  exact ⟨r, s, le, sa, sb, e1, _, e2, o, b1, b2, b3, p2, hp, hQ, by rw [qcz (A := A50) rfl rfl rfl]; exact q1, p3⟩
 have htext : LD S 85 [.ptr c 0 0 3] (σ ++ [V.Obj.cells [V.t .nils] 0 0]) = some (.t (.str s), (σ ++ [V.Obj.cells [V.t .nils] 0 0]).set c o) := by
  suffices hh : ∃ v σ', LV S 85 [.ptr c 0 0 3] (σ ++ [V.Obj.cells [V.t .nils] 0 0]) = some (v, σ') ∧ v = .t (.str s) ∧ σ' = (σ ++ [V.Obj.cells [V.t .nils] 0 0]).set c o by
   obtain ⟨v, σ', q1, rfl, rfl⟩ := hh
   rw [qcz (A := A85) rfl rfl rfl]; exact q1
  refine qay (A := A85) rfl Tryz.func85 rfl ?_
  repeat apply wS
  refine wR (by simp; constructor <;> rfl) ?_
  try simp only [tq]
  repeat apply wS
  refine wR (by simp [p1', hp.split]; constructor <;> rfl) ?_
  try simp only [tq]
  repeat apply wS
  refine wR (by simp; constructor <;> rfl) ?_
  try simp only [tq]
  refine qar ?_
  exact ⟨trivial, _, rfl, rfl, rfl⟩
 have hset : (σ ++ [V.Obj.cells [V.t .nils] 0 0]).set c o = σ.set c o ++ [V.Obj.cells [V.t .nils] 0 0] := by rw [List.set_append_left _ _ lc]
 refine qay (A := A50) rfl Tryz.func50 rfl ?_
 repeat apply wS
 refine wR (by simp; constructor <;> rfl) ?_
 try simp only [tq]
 have h0 : ((σ ++ [V.Obj.cells [V.t .nils] 0 0]).set c o)[σ.length]? = some (.cells [.t .nils] 0 0) := by
  rw [List.getElem?_set_ne (by omega), getA]
  rfl
 have hfin : ∀ b1 b2 b3, (((σ ++ [V.Obj.cells [V.t .nils] 0 0]).set c o ++ [b2, b3]).set σ.length b1) = σ.set c o ++ [b1, b2, b3] := fun b1 b2 b3 => by
  rw [hset]
  have : σ.length = (σ.set c o).length := by simp
  rw [this, List.append_assoc, List.set_append_right _ _ (Nat.le_refl _), Nat.sub_self]
  rfl
 revert htext h0 hfin
 generalize (σ ++ [V.Obj.cells [V.t .nils] 0 0]).set c o = ρ
 intro htext h0 hfin
 have lr := lt_of_get h0
 have h1 : ∀ o' : List V.Obj, (ρ ++ o')[σ.length]? = some (.cells [.t .nils] 0 0) := fun o' => by rw [List.getElem?_append_left lr]; exact h0
 have h2 : ∀ (o' : List V.Obj) (b : V.Obj), ((ρ ++ o').set σ.length b)[σ.length]? = some b := fun o' b => List.getElem?_set_self (by simp; omega)
 have h3 : ∀ a b, (ρ ++ [a, b])[ρ.length + 1]? = some b := fun a b => by rw [getB]; rfl
 repeat apply wS
 refine wR (by simp [htext, hp.read, getA, setA, qba, qal]; constructor <;> rfl) ?_
 try simp only [tq]
 repeat apply wS
 refine wR (by simp [hp.flat, getA, getB, setA, setB, qba, qal]; constructor <;> rfl) ?_
 try simp only [tq]
 repeat apply wS
 refine wR (by simp [h1, h2, h3, getA, getB, qal]; constructor <;> rfl) ?_
 try simp only [tq]
 refine qar ?_
 exact ⟨trivial, _, (by simp [Tryz.f50, h2, qdk, allT]), _, _, _, rfl, hfin _ _ _⟩
def q0e (id : Nat) : Code → Code
 | .seq (.region i ops d) b => match Nat.beq i id with
  | true => .seq (.region i ops d) b
  | false => q0e id b
 | .seq _ b => q0e id b
 | c => c
/-- The rest of l06Any's body, behind the copy. -/
noncomputable def anyC : Code := q0e 4 (Tryz.f27.body.getD .skip)
noncomputable def qwm (k y : Int) (G : T) (w : V) (n : Nat) : List (Nat × V) := [(0, .ptr 1 0 0 3), (2, .ptr 2 0 0 1), (3, .t (I k)), (4, .t (I y)), (5, .ptr n 0 0 1), (10, .ptr 1 0 0 3), (11, .t (I k)), (12, .ptr 1 0 0 3), (13, .t (I y)), (14, .ptr 1 0 0 3), (15, .t G), (16, .agg [w])]
/-- all cases, one behind the other: what is drawn, and what comes of it -/
noncomputable def allC (fc : CO) (res : FR) (G : T) (w : V) (n : Nat) (fs : FS) : List (Nat × Nat × T) → O :=
 List.rec (some (.bool true)) (fun p _ ih => tailC fc res tab 100000 (qwm (.ofNat p.1) (.ofNat p.2.1) G w n) fs fun x => ifB (beqT x p.2.2) ih none)
theorem qvn {fc : CO} {res : FR} {A : Ann} (hkl : A.kills = []) {rs : List ResultVar} {c : Code} (h1 : cco ixf S.ty S.pf A c = some fc) (h2 : cres S.ty rs = some res) {G : T} {w : V} {n : Nat} {fs : FS} {σ : Store} (Z : Sto fs σ) : ∀ {l : List (Nat × Nat × T)}, allC fc res G w n fs l = some (.bool true) → ∀ p ∈ l,
  W S A c (fun e st τ => (match e with | .exit _ => False | _ => True) ∧ ∃ v, (qbn S.ty st τ rs).map qfg = some v ∧ ∃ u, v = .agg [u] ∧ τ[0]? = some (.cells [.t .nils] 0 0) ∧ frz 40 (τ.set 0 (.cells [u] 0 0)) (.agg [u]) = some p.2.2) { vars := qwm (p.1 : Nat) (p.2.1 : Nat) G w n, scr := [] } σ
 | p :: l, h, q, hq => by
  have h' : tailC fc res tab 100000 (qwm (p.1 : Nat) (p.2.1 : Nat) G w n) fs (fun x => ifB (beqT x p.2.2) (allC fc res G w n fs l) none) = some (.bool true) := h
  have hw := tailC_W qiz 100000 hkl h1 h2 Z h'
  rcases List.mem_cons.1 hq with rfl | hq
  ·refine hw.mono fun e st τ hh => ?_
   obtain ⟨a1, v, a2, u, x, a3, a4, a5, a6⟩ := hh
   obtain ⟨b1, b2⟩ := qaf a6
   rw [qft b1] at a5
   exact ⟨a1, v, a2, u, a3, a4, a5⟩
  ·obtain ⟨m, e, st, τ, _, _, v, _, u, x, _, _, _, a6⟩ := hw
   obtain ⟨b1, b2⟩ := qaf a6
   exact qvn hkl h1 h2 Z b2 q hq
 | [], h, q, hq => by cases hq
/-- its fast text -/
theorem anyC_c : cco ixf S.ty S.pf A27 anyC = some cT27 := by kernel_rfl
noncomputable def qcg (cs : List (Nat × Nat × T)) (G : T) (o b1 b2 b3 : V.Obj) : O :=
 match cres S.ty Tryz.f27.results.toList with
 | some res => newsK [.cells [.t .nils] 0 0, o, .cells [.t .nils] 0 0, b1, b2, b3] ⟨0, .e⟩ fun fs => frunK tab 100000 x49 [.t G] fs fun v fs1 => match v with
  | .agg [w] => onew fs1 (.cells [w] 0 0) fun fs2 => allC cT27 res G w fs1.n fs2 cs
  | _ => none
 | _ => none
theorem qrn {cs : List (Nat × Nat × T)} {G : T} {o b1 b2 b3 : V.Obj} (h : qcg cs G o b1 b2 b3 = some (.bool true)) :
  ∃ w σ', LD S 49 [.t G] [.cells [.t .nils] 0 0, o, .cells [.t .nils] 0 0, b1, b2, b3] = some (.agg [w], σ') ∧ ∀ p ∈ cs, W S A27 anyC (fun e st τ => (match e with | .exit _ => False | _ => True) ∧ ∃ v, (qbn S.ty st τ Tryz.f27.results.toList).map qfg = some v ∧ ∃ u, v = .agg [u] ∧ τ[0]? = some (.cells [.t .nils] 0 0) ∧ frz 40 (τ.set 0 (.cells [u] 0 0)) (.agg [u]) = some p.2.2) { vars := qwm (p.1 : Nat) (p.2.1 : Nat) G w σ'.length, scr := [] } (σ' ++ [.cells [w] 0 0]) := by
 unfold qcg at h
 split at h
 rotate_left
 ·cases h
 rename_i res h2
 obtain ⟨fs, Z, h⟩ := qoo Sto.nil h
 rw [List.nil_append] at Z
 obtain ⟨v, σ', fs1, q1, Z1, h⟩ := qxf qiz e49 rfl Z h
 split at h
 rotate_left
 ·cases h
 rename_i w
 obtain ⟨fs2, Z2, h⟩ := qce Z1 h
 refine ⟨w, σ', by rw [qcz (A := A49) rfl rfl rfl]; exact q1, fun p hp => ?_⟩
 have := qvn rfl anyC_c h2 Z2 h p hp
 rw [Z1.n] at this
 exact this
/-- all that l06Any may make of a grammar has P -/
def AnyG (P : T → Prop) (G : T) : Prop := ∃ cs, (∀ o b1 b2 b3, qcg cs G o b1 b2 b3 = some (.bool true)) ∧ ∀ k y, k < 14 → y < 90 → ∃ X, (k, y, X) ∈ cs ∧ P X
@[local simp] theorem anyA1 : A27.vars = List.range 128 := rfl
@[local simp] theorem anyA2 : A27.kills = [] := rfl
@[local simp] theorem anyA3 : A27.bad = [] := rfl
@[local simp] theorem anyA4 : A27.dyn = [12, 16, 18] := rfl
@[local simp] theorem anyA5 : A27.pend = [] := rfl
@[local simp] theorem anyA6 : A27.owned = [(10, 3), (12, 5), (16, 7), (18, 4), (18, 10), (18, 12), (21, 1)] := rfl
theorem any_lv {P : T → Prop} {Q : T → Prop} (hP : qif Q) (hQ : ∀ G, Q G → AnyG P G) {x : T} {l : List Int} (hx : BytesT x l) (hl : (l.length : Int) ≤ 1048576) {oc : V.Obj} (hC : CurO x l oc) :
  ∃ u σ' X, LV S 27 [.ptr 1 0 0 3] [.cells [.t .nils] 0 0, oc] = some (.agg [u], σ') ∧ σ'[0]? = some (.cells [.t .nils] 0 0) ∧ frz 40 (σ'.set 0 (.cells [u] 0 0)) (.agg [u]) = some X ∧ P X := by
 have hC0 : ∀ o b, CurO x l o → CurAt [.cells [.t .nils] 0 0, o, b] 1 x l := fun o b ho => ⟨o, rfl, ho⟩
 obtain ⟨k, o1, p1, p2, p3⟩ := qeh hx hl (hC0 oc (.cells [.t .nils] 0 0) hC) (n := 14) (by omega) (by omega)
 obtain ⟨y, o2, q1, q2, q3⟩ := qeh hx hl (hC0 o1 (.cells [.t .nils] 0 0) p3) (n := 90) (by omega) (by omega)
 obtain ⟨i, s, le, sa, sb, e1, G, e2, o3, b1, b2, b3, g1, g2, gQ, g3, g4⟩ := gram_ld hP hx hl (hC0 o2 (.cells [.t .nils] 0 0) q3)
 have p1' : LD S 31 [.ptr 1 0 0 3, .t (I 14)] [.cells [.t .nils] 0 0, oc, .cells [.t .nils] 0 0] = some (.t (I k), [.cells [.t .nils] 0 0, o1, .cells [.t .nils] 0 0]) := p1
 have q1' : LD S 31 [.ptr 1 0 0 3, .t (I 90)] [.cells [.t .nils] 0 0, o1, .cells [.t .nils] 0 0] = some (.t (I y), [.cells [.t .nils] 0 0, o2, .cells [.t .nils] 0 0]) := q1
 have g3' : LD S 50 [.ptr 1 0 0 3] [.cells [.t .nils] 0 0, o2, .cells [.t .nils] 0 0] = some (.t G, [.cells [.t .nils] 0 0, o3, .cells [.t .nils] 0 0, b1, b2, b3]) := g3
 obtain ⟨cs, hcs, hall⟩ := hQ G gQ
 obtain ⟨X, hm, hX⟩ := hall k y p2 q2
 obtain ⟨w, σ', hcopy, htail⟩ := qrn (hcs o3 b1 b2 b3)
 have ht := htail _ hm
 suffices hh : ∃ v σ', LV S 27 [.ptr 1 0 0 3] [.cells [.t .nils] 0 0, oc] = some (v, σ') ∧ ∃ u, v = .agg [u] ∧ σ'[0]? = some (.cells [.t .nils] 0 0) ∧ frz 40 (σ'.set 0 (.cells [u] 0 0)) (.agg [u]) = some X by
  obtain ⟨v, σ', h1, u, rfl, h2, h3⟩ := hh
  exact ⟨u, σ', X, h1, h2, h3, hX⟩
 refine qay (A := A27) rfl Tryz.func27 rfl ?_
 repeat apply wS
 refine wR (by simp; constructor <;> rfl) ?_
 try simp only [tq]
 repeat apply wS
 refine wR (by simp [p1']; constructor <;> rfl) ?_
 try simp only [tq]
 repeat apply wS
 refine wR (by simp [q1']; constructor <;> rfl) ?_
 try simp only [tq]
 repeat apply wS
 refine wR (by simp [g3', hcopy, getA, setA, qba, qal]; constructor <;> rfl) ?_
 try simp only [tq]
 exact ht
/-! ### The cases, by rows: what is drawn first (7 stands for all that turns nothing), then what is drawn second, again and again -/
def pick (PP : List (List T)) (k y : Nat) : T := (PP.getD (min k 7) []).getD (y % (PP.getD (min k 7) []).length) .nils
def csOf (PP : List (List T)) : List (Nat × Nat × T) := (List.range 14).flatMap fun k => (List.range 90).map fun y => (k, y, pick PP k y)
theorem qqr {α : Type} {l : List α} {n : Nat} (d : α) (h : n < l.length) : l.getD n d ∈ l := by
 rw [List.getD_eq_getElem?_getD, List.getElem?_eq_getElem h]
 exact List.getElem_mem h
theorem anyG_of {P : T → Prop} {G : T} {PP : List (List T)} (hl : PP.length = 8) (hne : ∀ r ∈ PP, 0 < r.length) (hP : ∀ r ∈ PP, ∀ X ∈ r, P X) (hc : ∀ o b1 b2 b3, qcg (csOf PP) G o b1 b2 b3 = some (.bool true)) : AnyG P G := by
 refine ⟨csOf PP, hc, fun k y hk hy => ⟨pick PP k y, ?_, ?_⟩⟩
 ·simp only [csOf, List.mem_flatMap, List.mem_map, List.mem_range]
  exact ⟨k, hk, y, hy, rfl⟩
 ·have hm : PP.getD (min k 7) [] ∈ PP := qqr [] (by rw [hl]; omega)
  exact hP _ hm _ (qqr _ (Nat.mod_lt y (hne _ hm)))
end X
open Go Go.V Go.Proofs F
namespace X
/-! ### Nullable of both sides, by closed runs -/
def qhm (X : T) : Prop := ∃ l : List (List Nat), l.length ≤ 100 ∧ (∀ σ, LD S 6 [.t X] σ = some (.t (qdn l), σ)) ∧ ∀ σ, LD S 14 [.t X] σ = some (.t (qdn l), σ)
def strsR : List T → Option (List (List Nat))
 | [] => some []
 | .agg [.str s] :: r => match strsR r with
  | some l => some (s :: l)
  | none => none
 | _ => none
theorem qvg : ∀ {x : List T} {l : List (List Nat)}, strsR x = some l → x = l.map fun s => .agg [.str s]
 | [], l, h => by cases h; rfl
 | .agg [.str s] :: r, l, h => by
  simp only [strsR] at h
  split at h
  ·rename_i l' hl
   cases h
   rw [List.map_cons, qvg hl]
  ·cases h
noncomputable def nul2 (a b : T) : Bool := match a with
 | .list x => match strsR x with
  | some l => Nat.ble l.length 100 && beqT a b
  | none => false
 | _ => false
noncomputable def allN : List T → O := List.rec (some (.bool true)) fun X _ ih => qjt tab 100000 x6 [.t X] fun a => qjt tab 100000 x14 [.t X] fun b => ifB (nul2 a b) ih none
theorem q1j {a b : T} (h : nul2 a b = true) : a = b ∧ ∃ l : List (List Nat), l.length ≤ 100 ∧ a = qdn l := by
 unfold nul2 at h
 split at h
 ·split at h
  ·rename_i l hl
   simp only [Bool.and_eq_true, Nat.ble_eq] at h
   exact ⟨qft h.2, l, h.1, by rw [qdn, qvg hl]⟩
  ·cases h
 ·cases h
theorem q2c : ∀ {l : List T}, allN l = some (.bool true) → ∀ X ∈ l, qhm X
 | X :: l, h, Y, hY => by
  obtain ⟨a, h1, h'⟩ := qhf (ts := [X]) qiz e6 rfl (A := A6) rfl rfl (show qjt tab 100000 x6 ([X].map V.t) _ = some (.bool true) from h)
  obtain ⟨b, h2, h'⟩ := qhf (ts := [X]) qiz e14 rfl (A := A14) rfl rfl (show qjt tab 100000 x14 ([X].map V.t) _ = some (.bool true) from h')
  obtain ⟨h3, h4⟩ := qaf h'
  rcases List.mem_cons.1 hY with rfl | hY
  ·obtain ⟨rfl, s, q1, rfl⟩ := q1j h3
   exact ⟨s, q1, h1, h2⟩
  ·exact q2c h4 Y hY
 | [], h, Y, hY => by cases hY
def rowsOf (l : List T) (r : List (List Nat)) : List (List T) := r.map fun r => r.map fun i => l.getD i .nils
theorem qdo {G : T} {r : List (List Nat)} {l : List T} (hl : r.length = 8) (hr : r.all (fun r => decide (0 < r.length) && r.all fun i => decide (i < l.length)) = true) (hn : allN l = some (.bool true)) (hc : ∀ o b1 b2 b3, qcg (csOf (rowsOf l r)) G o b1 b2 b3 = some (.bool true)) : AnyG qhm G := by
 have key : ∀ s ∈ r, 0 < s.length ∧ ∀ i ∈ s, i < l.length := fun s hs => by
  have h1 := List.all_eq_true.1 hr s hs
  simp only [Bool.and_eq_true, decide_eq_true_eq, List.all_eq_true] at h1
  exact h1
 refine anyG_of (by simpa [rowsOf] using hl) (fun s hs => ?_) (fun s hs X hX => ?_) hc
 ·obtain ⟨q, hq, rfl⟩ := List.mem_map.1 hs
  simpa using (key q hq).1
 ·obtain ⟨q, hq, rfl⟩ := List.mem_map.1 hs
  obtain ⟨i, hi, rfl⟩ := List.mem_map.1 hX
  exact q2c hn _ (qqr _ ((key q hq).2 i hi))
end X
namespace F
open X
attribute [-simp] getElem?_pos
/-! ### The draws -/
theorem quw {Q : T → Prop} (hP : qif Q) {x : T} {l : List Int} (hx : BytesT x l) (hl : (l.length : Int) ≤ 1048576) :
  ∃ G t, (∀ σ, LD S 5 [.t x] σ = some (.t (.tup [G, .str t]), σ)) ∧ (X.Good G ∧ Q G) ∧ bsB t = true ∧ t.length ≤ 8 := by
 suffices hh : ∃ v σ', LV S 5 [.t x] [] = some (v, σ') ∧ ∃ G t, v = .t (.tup [G, .str t]) ∧ (X.Good G ∧ Q G) ∧ bsB t = true ∧ t.length ≤ 8 by
  obtain ⟨v, σ', h1, G, t, rfl, h2⟩ := hh
  exact ⟨G, t, fun σ => qbl (A := A5) (args := [.t x]) rfl rfl rfl h1 rfl σ, h2⟩
 obtain ⟨h0, hnew⟩ := new_lv hx hl [.cells [.t .nils] 0 0]
 have hC : CurAt ([V.Obj.cells [V.t .nils] 0 0] ++ [Cur x 0 h0]) 1 x l := ⟨_, rfl, 0, h0, rfl, by omega, by omega⟩
 obtain ⟨G, t, σ1, p1, p2, p3, p4, p5⟩ := pair_ld hP hx hl hC
 have hnew' : LD S 16 [.t x] [.cells [.t .nils] 0 0] = some (.ptr 1 0 0 3, [.cells [.t .nils] 0 0, Cur x 0 h0]) := hnew
 have p1' : LD S 17 [.ptr 1 0 0 3] [.cells [.t .nils] 0 0, Cur x 0 h0] = some (.t (.tup [G, .str t]), σ1) := p1
 have p2' := p2
 obtain ⟨⟨SR, MK, VN, RA, n0, ps0, az0, gr, rfl, hgood⟩, hq⟩ := p2'
 have q0 : σ1[0]? = some (.cells [.t .nils] 0 0) := by rw [p5 0 (by simp) (by decide)]; rfl
 have lq := lt_of_get q0
 have q2 : ∀ o', (σ1.set 0 o')[0]? = some o' := fun o' => List.getElem?_set_self lq
 refine qay (A := A5) rfl Tryz.func5 rfl ?_
 repeat apply wS
 refine wR (by simp; constructor <;> rfl) ?_
 try simp only [tq]
 repeat apply wS
 refine wR (by simp [hnew']; constructor <;> rfl) ?_
 try simp only [tq]
 repeat apply wS
 refine wR (by simp [p1', q0, qba, qal]; constructor <;> rfl) ?_
 try simp only [tq]
 refine qar ?_
 exact ⟨trivial, .t (.tup [.agg [.list (.agg [.str n0, ps0, az0] :: gr)], .str t]), (by simp [Tryz.f5, q2, qdk, allT]), _, t, rfl, p2, p3, p4⟩
theorem qus {P Q : T → Prop} (hP : qif Q) (hQ : ∀ G, Q G → AnyG P G) {x : T} {l : List Int} (hx : BytesT x l) (hl : (l.length : Int) ≤ 1048576) :
  ∃ z, (∀ σ, LD S 12 [.t x] σ = some (.t (.agg [z]), σ)) ∧ P (.agg [z]) := by
 obtain ⟨h0, hnew⟩ := new_lv hx hl [.cells [.t .nils] 0 0]
 obtain ⟨u, σ', Y, a1, a2, a3, a4⟩ := any_lv hP hQ hx hl (oc := Cur x 0 h0) ⟨0, h0, rfl, by omega, by omega⟩
 have hnew' : LD S 16 [.t x] [.cells [.t .nils] 0 0] = some (.ptr 1 0 0 3, [.cells [.t .nils] 0 0, Cur x 0 h0]) := hnew
 have a1' : LD S 27 [.ptr 1 0 0 3] [.cells [.t .nils] 0 0, Cur x 0 h0] = some (.agg [u], σ') := by
  rw [qcz (A := A27) rfl rfl rfl]; exact a1
 obtain ⟨z, rfl⟩ : ∃ z, Y = .agg [z] := by
  have a3' : (frzs (frz 39 (σ'.set 0 (.cells [u] 0 0))) [u]).map T.agg = some Y := a3
  cases hu : frz 39 (σ'.set 0 (.cells [u] 0 0)) u with
  | none => simp only [frzs, hu] at a3'; cases a3'
  | some y => simp only [frzs, hu, Option.map_some, Option.some.injEq] at a3'; exact ⟨y, a3'.symm⟩
 refine ⟨z, ?_, a4⟩
 suffices hh : ∃ v σ2, LV S 12 [.t x] [] = some (v, σ2) ∧ frz 40 σ2 v = some (.agg [z]) by
  obtain ⟨v, σ2, h1, h2⟩ := hh
  exact fun σ => qbl (A := A12) (args := [.t x]) rfl rfl rfl h1 h2 σ
 have q2 : ∀ o', (σ'.set 0 o')[0]? = some o' := fun o' => List.getElem?_set_self (lt_of_get a2)
 refine qay (A := A12) rfl Tryz.func12 rfl ?_
 repeat apply wS
 refine wR (by simp; constructor <;> rfl) ?_
 try simp only [tq]
 repeat apply wS
 refine wR (by simp [hnew', a1', a2, qba, qal]; constructor <;> rfl) ?_
 try simp only [tq]
 refine qar ?_
 have hf : ∀ σ, frz 40 σ (match allT [u] with
  | some ts => V.t (T.agg ts)
  | none => V.agg [u]) = frz 40 σ (.agg [u]) := fun σ => by
  cases u <;> rfl
 exact ⟨trivial, _, (by simp [Tryz.f12, q2, qdk]; rfl), (hf _).trans a3⟩
end F
namespace F
open X
attribute [-simp] getElem?_pos
/-! ### What is known of a grammar -/
structure FirstG (SR : List Nat → Option (List Nat)) (RA : List Nat → Option Nat) (rules : List T) (nl : List (List Nat)) (nu : Nat → Bool) (fb : Nat → List Nat) : Prop where
 ok : qqq SR RA nu fb 0 rules = true
 few : nl.length ≤ 1000
 rule : ∀ (i : Nat) (x : T), rules[i]? = some x → ∃ nm ps az pl, x = .agg [.str nm, ps, az] ∧ RA nm = some i ∧ (nu i = true → nm ∈ nl) ∧ qew ps = some pl ∧ pl.length ≤ 100 ∧ (fb i).length ≤ 1000 ∧ (∀ b ∈ fb i, b < 256) ∧
  (∀ σ, LD S 7 [.t (.agg [.list rules]), .t (I i)] σ = some (.t (.str (fb i)), σ)) ∧ ∀ σ, LD S 8 [.t (.agg [.list rules]), .t (I i)] σ = some (.t (.str (fb i)), σ)
 nulI : ∀ σ, LD S 6 [.t (.agg [.list rules])] σ = some (.t (qdn nl), σ)
 nulS : ∀ σ, LD S 14 [.t (.agg [.list rules])] σ = some (.t (qdn nl), σ)
def QF (G : T) : Prop := (∃ SR MK VN RA n0 ps0 az0 gr nl nu fb, G = .agg [.list (.agg [.str n0, ps0, az0] :: gr)] ∧ GramOk SR MK VN RA n0 ps0 az0 gr ∧ FirstG SR RA (.agg [.str n0, ps0, az0] :: gr) nl nu fb) ∧ AnyG qhm G
/-- EndsOf of any rule, with noughts for args -/
theorem ends_F {SR : List Nat → Option (List Nat)} {MK : T → Option (List Bool)} {VN : List Nat → Bool} {RA : List Nat → Option Nat} {n0 : List Nat} {ps0 az0 : T} {gr : List T} (H : GramOk SR MK VN RA n0 ps0 az0 gr) {nl : List (List Nat)} {nu : Nat → Bool} {fb : Nat → List Nat} (F : FirstG SR RA (.agg [.str n0, ps0, az0] :: gr) nl nu fb)
  {text : List Nat} (ht : bsB text = true) (hn : text.length ≤ 12) {i : Nat} {nm : List Nat} {ps az : T} {pl : List T} (hr : (T.agg [.str n0, ps0, az0] :: gr)[i]? = some (.agg [.str nm, ps, az])) (hra : RA nm = some i) (hps : qew ps = some pl) (hpl : pl.length ≤ 100) {k : Nat} (hk : k ≤ text.length) :
  ∃ es x, Is x es ∧ (∀ σ, LD S 9 [.t (.agg [.list (.agg [.str n0, ps0, az0] :: gr)]), .t (.str text), .t (.str nm), .t (.list (qec (List.replicate pl.length 0))), .t (I k)] σ = some (.t x, σ)) ∧ (∀ e ∈ es, e ≤ text.length ∧ FE nu fb text i k e) ∧ es.length ≤ 13 := by
 have hlt := X.lt_of_get hr
 obtain ⟨s', h1, h2, h3⟩ := run_tot (SR := SR) (MK := MK) (VN := VN) (RA := RA) H.right ht hn hlt (al := List.replicate pl.length 0) (by simp; omega) hk
 have hrun : RunOk (mkK SR MK VN RA text) (.agg [.str n0, ps0, az0] :: gr) text nm i (List.replicate pl.length 0) k :=
  { k := mkK_ok H.sets H.marks H.names H.rules text
    gok := H.gok
    ruleAt := hra
    rule := ⟨_, ps, az, pl, hr, hps, by simp⟩
    len := hn
    from_ := hk
    args := ⟨by simp; omega, fun a ha => by rw [(List.mem_replicate.1 ha).2]; omega⟩ }
 obtain ⟨y, r1, r2⟩ := run_ld hrun (x := .list (qec (List.replicate pl.length 0))) (.inr rfl) h1
 obtain ⟨x, e1, e2⟩ := ends_ld r1 r2 h2
 have hF := head_F ht F.ok h1
 refine ⟨qqm (outS s'), x, e1, e2, fun e he => ⟨(h3 e he).1, hF e he⟩, ?_⟩
 cases he : qqm (outS s') with
 | nil => simp
 | cons a r => rw [← he]; exact (h3 a (by rw [he]; simp)).2
theorem zeros (n : Nat) : allT (qan [V.t (I 0)] n) = some (List.replicate n (I 0)) := by
 induction n with
 | zero => rfl
 | succ n ih => simp [qan, allT, ih, List.replicate_succ]
theorem qwn (n : Nat) : chunk 1 n (List.replicate n (I 0)) = qec (List.replicate n 0) := by
 induction n with
 | zero => rfl
 | succ n ih => simp [chunk, List.replicate_succ, ih, qec]
end F
namespace F
open X
attribute [-simp] lenV idxV getElem?_pos
/-! ### The law -/
theorem law_lv (hP : qif QF) {Gp : T} (hp1 : ∀ σ, LD S 15 [.t (.str [83, 32, 45, 62, 32, 34, 97, 98, 34, 32, 124, 32, 91, 120, 121, 93, 32, 59])] σ = some (.t Gp, σ)) (hp2 : ∀ σ, LD S 7 [.t Gp, .t (I 0)] σ = some (.t (.str [97, 120, 121]), σ))
  {x : T} {l : List Int} (hx : BytesT x l) : ∃ σ', LV S 3 [.t x] [] = some (.t (B true), σ') := by
 refine qhc (A := A3) rfl Tryz.func3 rfl ?_
 have hbig := big_ld hx
 repeat apply wS
 refine wR (by simp; constructor <;> rfl) ?_
 try simp only [tq]
 repeat apply wS
 refine wR (by simp [hbig]; constructor <;> rfl) ?_
 try simp only [tq]
 by_cases c0 : (1048576 : Int) < l.length
 ·repeat apply wS
  refine wC (t := true) (by simp [c0]) ?_
  simp only [iq]
  repeat apply wS
  refine wR (by simp; constructor <;> rfl) ?_
  try simp only [tq]
  refine qar ?_
  try simp only [tq]
  simp [Tryz.f3]
 repeat apply wS
 refine wC (t := false) (by simp [c0]) ?_
 simp only [iq]
 refine qai ?_
 try simp only [tq]
 obtain ⟨G, t, d1, ⟨d2, d2'⟩, d3, d4⟩ := quw hP hx (by omega)
 obtain ⟨z, y1, nz, y2, y3, y4⟩ := qus hP (fun G h => h.2) hx (by omega)
 obtain ⟨⟨SR, MK, VN, RA, n0, ps0, az0, gr, nl, nu, fb, rfl, H, F⟩, -⟩ := d2'
 repeat apply wS
 refine wR (by simp [d1, qba, qal]; constructor <;> rfl) ?_
 try simp only [tq]
 repeat apply wS
 refine wR (by simp [F.nulI]; constructor <;> rfl) ?_
 try simp only [tq]
 repeat apply wS
 refine wR (by simp; constructor <;> rfl) ?_
 try simp only [tq]
 repeat apply wS
 refine qae ?_
 refine qbk (I := fun m st τ => ∃ i, m = (T.agg [.str n0, ps0, az0] :: gr).length - i ∧ i ≤ (T.agg [.str n0, ps0, az0] :: gr).length ∧ st.vars = [(0, .t x), (2, .t (B false)), (3, .ptr 0 0 0 1), (4, .t (.str t)), (5, .t (qdn nl)), (6, .t (I i))] ∧ τ = [.cells [.t (.list (.agg [.str n0, ps0, az0] :: gr))] 0 0]) ?_ (T.agg [.str n0, ps0, az0] :: gr).length _ _ ⟨0, rfl, Nat.zero_le _, rfl, rfl⟩
 have few := H.few
 generalize hR : (T.agg [.str n0, ps0, az0] :: gr) = rules at *
 rintro m ⟨vars, scr⟩ τ ⟨i, rfl, hi, hv, rfl⟩
 simp only at hv
 subst hv
 repeat apply wS
 refine wR (by simp [lenV]; constructor <;> rfl) ?_
 try simp only [tq]
 by_cases c1 : i < rules.length
 ·repeat apply wS
  refine wC (t := true) (by simp [c1]) ?_
  simp only [iq]
  refine qai ?_
  try simp only [tq]
  repeat apply wS
  refine qae ?_
  obtain ⟨y, hy⟩ := X.get_of_lt c1
  obtain ⟨nm, ps, az, pl, rfl, f1, f2, f3, f4, f5, f6, f7, f8⟩ := F.rule i y hy
  repeat apply wS
  refine wR (by simp [f7]; constructor <;> rfl) ?_
  try simp only [tq]
  have lps : ∀ (σ : Store) (e : TypeId), lenV σ (.slice e) (.t ps) = some (pl.length : Int) := fun σ e => by
   rcases qhg f3 with ⟨rfl, rfl⟩ | rfl <;> simp
  have hz := zeros pl.length
  have hc1 := qwn pl.length
  repeat apply wS
  refine wR (by simp [hy, idxV, lps, zeroCells, List.getElem?_map, hz, hc1, show (pl.length : Int) * 8 ≤ 140737488355328 by omega, Int.toNat_natCast]; constructor <;> rfl) ?_
  try simp only [tq]
  repeat apply wS
  refine wR (by simp [f8]; constructor <;> rfl) ?_
  try simp only [tq]
  repeat apply wS
  refine wC (t := false) (by simp [qem]) ?_
  simp only [iq]
  refine qai ?_
  try simp only [tq]
  repeat apply wS
  refine wR (by simp; constructor <;> rfl) ?_
  try simp only [tq]
  repeat apply wS
  refine qae ?_
  have hfew : ∀ k, k ≤ t.length → ∃ es x, Is x es ∧ (∀ σ, LD S 9 [.t (.agg [.list rules]), .t (.str t), .t (.str nm), .t (.list (qec (List.replicate pl.length 0))), .t (I k)] σ = some (.t x, σ)) ∧ (∀ e ∈ es, e ≤ t.length ∧ FE nu fb t i k e) ∧ es.length ≤ 13 := fun k hk => by
   subst hR
   exact ends_F H F d3 (by omega) hy f1 f3 f4 hk
  refine qbk (I := fun m st τ => ∃ k, m = t.length + 1 - k ∧ k ≤ t.length + 1 ∧ st.vars = [(0, .t x), (2, .t (B false)), (3, .ptr 0 0 0 1), (4, .t (.str t)), (5, .t (qdn nl)), (6, .t (I i)), (7, .t (.str (fb i))), (8, .t (.list (qec (List.replicate pl.length 0)))), (9, .t (I k))] ∧ τ = [.cells [.t (.list rules)] 0 0]) ?_ (t.length + 1) _ _ ⟨0, rfl, Nat.zero_le _, rfl, rfl⟩
  rintro m ⟨vars, scr⟩ τ ⟨k, rfl, hk, hv, rfl⟩
  simp only at hv
  subst hv
  repeat apply wS
  refine wR (by simp [lenV]; constructor <;> rfl) ?_
  try simp only [tq]
  by_cases c2 : k ≤ t.length
  ·repeat apply wS
   refine wC (t := true) (by simp [c2]) ?_
   simp only [iq]
   refine qai ?_
   try simp only [tq]
   repeat apply wS
   refine qae ?_
   obtain ⟨es, xe, he1, he2, he3, he4⟩ := hfew k c2
   have lxe : ∀ (σ : Store) (e : TypeId), lenV σ (.slice e) (.t xe) = some (es.length : Int) := fun σ e => by
    rcases he1 with ⟨rfl, rfl⟩ | rfl <;> simp [lenV]
   have ixe : ∀ {j e : Nat}, es[j]? = some e → idxV 1 (.t xe) (j : Int) = some (.t (.snap [I e])) := fun {j e} h => by
    rcases he1 with ⟨rfl, rfl⟩ | rfl
    ·simp at h
    ·simp [idxV, qec, h]
   repeat apply wS
   refine wR (by simp [idxV, hy, he2]; constructor <;> rfl) ?_
   try simp only [tq]
   repeat apply wS
   refine wR (by simp; constructor <;> rfl) ?_
   try simp only [tq]
   repeat apply wS
   refine qae ?_
   refine qbk (I := fun m st τ => ∃ j, m = es.length - j ∧ j ≤ es.length ∧ st.vars = [(0, .t x), (2, .t (B false)), (3, .ptr 0 0 0 1), (4, .t (.str t)), (5, .t (qdn nl)), (6, .t (I i)), (7, .t (.str (fb i))), (8, .t (.list (qec (List.replicate pl.length 0)))), (9, .t (I k)), (10, .t xe), (11, .t (I j))] ∧ τ = [.cells [.t (.list rules)] 0 0]) ?_ es.length _ _ ⟨0, rfl, Nat.zero_le _, rfl, rfl⟩
   rintro m ⟨vars, scr⟩ τ ⟨j, rfl, hj, hv, rfl⟩
   simp only at hv
   subst hv
   repeat apply wS
   refine wR (by simp [lxe]; constructor <;> rfl) ?_
   try simp only [tq]
   by_cases c3 : j < es.length
   ·repeat apply wS
    refine wC (t := true) (by simp [c3]) ?_
    simp only [iq]
    refine qai ?_
    try simp only [tq]
    repeat apply wS
    refine qae ?_
    obtain ⟨e, hje⟩ := X.get_of_lt c3
    have hie := ixe hje
    obtain ⟨g1, g2, g3, g4⟩ := he3 e (List.mem_of_getElem? hje)
    by_cases hek : e = k
    ·subst hek
     have hh := has_ld nl (by have := F.few; omega) (f2 (g3 rfl))
     have hri : idxV 3 (.t (.list rules)) (i : Int) = some (.t (.snap [.str nm, ps, az])) := by simp [idxV, hy]
     repeat apply wS
     refine wR (by simp [hie, hri, hh]; constructor <;> rfl) ?_
     try simp only [tq]
     repeat apply wS
     refine wC (t := false) (by simp) ?_
     simp only [iq]
     refine qai ?_
     try simp only [tq]
     repeat apply wS
     refine wR (by simp [IntWalk.i64_in ((j : Int) + 1) (by omega)]; constructor <;> rfl) ?_
     try simp only [tq]
     exact ⟨es.length - (j + 1), by omega, j + 1, rfl, c3, by simp, by simp⟩
    ·obtain ⟨b, hb1, hb2⟩ := g4 (by omega)
     have hh := q2v (fb i) (by omega) hb2
     have hbe : ((e : Int) == (k : Int)) = false := by
      have : ¬ (e : Int) = k := by omega
      simpa using this
     repeat apply wS
     refine wR (by simp [hie, hh, hb1, hbe, show ¬ (e : Int) = k by omega, show k < e by omega, show (k : Int) < e by omega]; constructor <;> rfl) ?_
     try simp only [tq]
     repeat apply wS
     refine wC (t := false) (by simp) ?_
     simp only [iq]
     refine qai ?_
     try simp only [tq]
     repeat apply wS
     refine wR (by simp [IntWalk.i64_in ((j : Int) + 1) (by omega)]; constructor <;> rfl) ?_
     try simp only [tq]
     exact ⟨es.length - (j + 1), by omega, j + 1, rfl, c3, by simp, by simp⟩
   ·repeat apply wS
    refine wC (t := false) (by simp [c3]) ?_
    simp only [iq]
    repeat apply wS
    refine qax ?_
    try simp only [tq, if_true]
    repeat apply wS
    refine wR (by simp [IntWalk.i64_in ((k : Int) + 1) (by omega)]; constructor <;> rfl) ?_
    try simp only [tq]
    exact ⟨t.length + 1 - (k + 1), by omega, k + 1, rfl, by omega, by simp, by simp⟩
  ·repeat apply wS
   refine wC (t := false) (by simp [c2]) ?_
   simp only [iq]
   repeat apply wS
   refine qax ?_
   try simp only [tq, if_true]
   repeat apply wS
   refine wR (by simp [IntWalk.i64_in ((i : Int) + 1) (by omega)]; constructor <;> rfl) ?_
   try simp only [tq]
   exact ⟨rules.length - (i + 1), by omega, i + 1, rfl, c1, by simp, by simp⟩
 ·repeat apply wS
  refine wC (t := false) (by simp [c1]) ?_
  simp only [iq]
  repeat apply wS
  refine qax ?_
  try simp only [tq, if_true]
  have hst := fun σ => qki nz (by omega) σ
  have hst2 := fun σ => qki nl (by have := F.few; omega) σ
  have hns := F.nulS
  repeat apply wS
  refine wR (by simp [y1, qba, qal]; constructor <;> rfl) ?_
  try simp only [tq]
  repeat apply wS
  refine wR (by simp [y3, y4, hst, hns, hst2, hp1, hp2, qem]; constructor <;> rfl) ?_
  try simp only [tq]
  refine qar ?_
  try simp only [tq]
  simp [Tryz.f3, qem]
end F
