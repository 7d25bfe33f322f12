/- A part of the proof. No statement of the claim is in it. -/
import Derived.Test.YtojpedmanjlnlaaGreatDoorNa
import Derived.Test.YtojpedmanjlnlaaGreatDoorTns
import Derived.Test.YtojpedmanjlnlaaGreatDoorVd
set_option maxRecDepth 100000
set_option maxHeartbeats 4000000
set_option linter.all false
open Go Go.V Go.Proofs
namespace X
attribute [-simp] getElem?_pos
/-! ### A grammar of the list, as l06Any draws it -/
theorem gram_ld {Q : T → Prop} (hP : PairsOk Q) {x : T} {l : List Int} (hx : BytesT x l) (hl : (l.length : Int) ≤ 1048576) {σ : Store} {c : Nat} (hC : CurAt σ c x l) :
  ∃ i s le sa sb e1 G e2 o b1 b2 b3, i < 13 ∧ PairOk i s le sa sb e1 G e2 ∧ Q G ∧ LD S 39 [.ptr c 0 0 3] σ = some (.t G, σ.set c o ++ [b1, b2, b3]) ∧ CurO x l o := by
 have lc := hC.lt
 have hC2 : CurAt (σ ++ [V.Obj.cells [V.t .nils] 0 0]) c x l := by
  obtain ⟨oc, q1, q2⟩ := hC
  exact ⟨oc, by rw [List.getElem?_append_left lc]; exact q1, q2⟩
 obtain ⟨r, o, p1, p2, p3⟩ := below_ld hx hl hC2 (n := 13) (by omega) (by omega)
 obtain ⟨s, le, sa, sb, e1, G, e2, hp, hQ⟩ := hP r p2
 have p1' : LD S 37 [.ptr c 0 0 3, .t (I 13)] (σ ++ [V.Obj.cells [V.t .nils] 0 0]) = some (.t (I r), (σ ++ [V.Obj.cells [V.t .nils] 0 0]).set c o) := p1
 obtain ⟨L0, rfl⟩ := hp.good
 suffices hh : ∃ v σ', LV S 39 [.ptr c 0 0 3] σ = some (v, σ') ∧ ∃ b1 b2 b3, v = .t (.agg [L0]) ∧ σ' = σ.set c o ++ [b1, b2, b3] by
  obtain ⟨v, σ', q1, b1, b2, b3, rfl, rfl⟩ := hh
  exact ⟨r, s, le, sa, sb, e1, _, e2, o, b1, b2, b3, p2, hp, hQ, by rw [LD_inl (A := A39) rfl rfl rfl]; exact q1, p3⟩
 have htext : LD S 71 [.ptr c 0 0 3] (σ ++ [V.Obj.cells [V.t .nils] 0 0]) = some (.t (.str s), (σ ++ [V.Obj.cells [V.t .nils] 0 0]).set c o) := by
  suffices hh : ∃ v σ', LV S 71 [.ptr c 0 0 3] (σ ++ [V.Obj.cells [V.t .nils] 0 0]) = some (v, σ') ∧ v = .t (.str s) ∧ σ' = (σ ++ [V.Obj.cells [V.t .nils] 0 0]).set c o by
   obtain ⟨v, σ', q1, rfl, rfl⟩ := hh
   rw [LD_inl (A := A71) rfl rfl rfl]; exact q1
  refine LV_bodyX (A := A71) rfl Tryz.func71 rfl ?_
  repeat apply wS
  refine wR (by simp; constructor <;> rfl) ?_
  try simp only [tq]
  repeat apply wS
  refine wR (by simp [p1', hp.split]; constructor <;> rfl) ?_
  try simp only [tq]
  repeat apply wS
  refine wR (by simp; constructor <;> rfl) ?_
  try simp only [tq]
  refine W_ret ?_
  exact ⟨trivial, _, rfl, rfl, rfl⟩
 have hset : (σ ++ [V.Obj.cells [V.t .nils] 0 0]).set c o = σ.set c o ++ [V.Obj.cells [V.t .nils] 0 0] := by rw [List.set_append_left _ _ lc]
 refine LV_bodyX (A := A39) rfl Tryz.func39 rfl ?_
 repeat apply wS
 refine wR (by simp; constructor <;> rfl) ?_
 try simp only [tq]
 have h0 : ((σ ++ [V.Obj.cells [V.t .nils] 0 0]).set c o)[σ.length]? = some (.cells [.t .nils] 0 0) := by
  rw [List.getElem?_set_ne (by omega), getA]
  rfl
 have hfin : ∀ b1 b2 b3, (((σ ++ [V.Obj.cells [V.t .nils] 0 0]).set c o ++ [b2, b3]).set σ.length b1) = σ.set c o ++ [b1, b2, b3] := fun b1 b2 b3 => by
  rw [hset]
  have : σ.length = (σ.set c o).length := by simp
  rw [this, List.append_assoc, List.set_append_right _ _ (Nat.le_refl _), Nat.sub_self]
  rfl
 revert htext h0 hfin
 generalize (σ ++ [V.Obj.cells [V.t .nils] 0 0]).set c o = ρ
 intro htext h0 hfin
 have lr := lt_of_get h0
 have h1 : ∀ o' : List V.Obj, (ρ ++ o')[σ.length]? = some (.cells [.t .nils] 0 0) := fun o' => by rw [List.getElem?_append_left lr]; exact h0
 have h2 : ∀ (o' : List V.Obj) (b : V.Obj), ((ρ ++ o').set σ.length b)[σ.length]? = some b := fun o' b => List.getElem?_set_self (by simp; omega)
 have h3 : ∀ a b, (ρ ++ [a, b])[ρ.length + 1]? = some b := fun a b => by rw [getB]; rfl
 repeat apply wS
 refine wR (by simp [htext, hp.read, getA, setA, fillV, setRange]; constructor <;> rfl) ?_
 try simp only [tq]
 repeat apply wS
 refine wR (by simp [hp.flat, getA, getB, setA, setB, fillV, setRange]; constructor <;> rfl) ?_
 try simp only [tq]
 repeat apply wS
 refine wR (by simp [h1, h2, h3, getA, getB, setRange]; constructor <;> rfl) ?_
 try simp only [tq]
 refine W_ret ?_
 exact ⟨trivial, _, (by simp [Tryz.f39, h2, mkAgg, allT]), _, _, _, rfl, hfin _ _ _⟩
def dropTo (id : Nat) : Code → Code
 | .seq (.region i ops d) b => match Nat.beq i id with
  | true => .seq (.region i ops d) b
  | false => dropTo id b
 | .seq _ b => dropTo id b
 | c => c
/-- The rest of l06Any's body, behind the copy. -/
noncomputable def anyC : Code := dropTo 4 (Tryz.f16.body.getD .skip)
noncomputable def anyEnv (k y : Int) (G : T) (w : V) (n : Nat) : List (Nat × V) := [(0, .ptr 1 0 0 3), (2, .ptr 2 0 0 1), (3, .t (I k)), (4, .t (I y)), (5, .ptr n 0 0 1), (10, .ptr 1 0 0 3), (11, .t (I k)), (12, .ptr 1 0 0 3), (13, .t (I y)), (14, .ptr 1 0 0 3), (15, .t G), (16, .agg [w])]
/-- all cases, one behind the other: what is drawn, and what comes of it -/
noncomputable def allC (fc : CO) (res : FR) (G : T) (w : V) (n : Nat) (fs : FS) : List (Nat × Nat × T) → O :=
 List.rec (some (.bool true)) (fun p _ ih => tailC fc res tab 100000 (anyEnv (.ofNat p.1) (.ofNat p.2.1) G w n) fs fun x => ifB (beqT x p.2.2) ih none)
theorem allC_mem {fc : CO} {res : FR} {A : Ann} (hkl : A.kills = []) {rs : List ResultVar} {c : Code} (h1 : cco ixf S.ty S.pf A c = some fc) (h2 : cres S.ty rs = some res) {G : T} {w : V} {n : Nat} {fs : FS} {σ : Store} (Z : Sto fs σ) : ∀ {l : List (Nat × Nat × T)}, allC fc res G w n fs l = some (.bool true) → ∀ p ∈ l,
  W S A c (fun e st τ => (match e with | .exit _ => False | _ => True) ∧ ∃ v, (resultsV S.ty st τ rs).map joinV = some v ∧ ∃ u, v = .agg [u] ∧ τ[0]? = some (.cells [.t .nils] 0 0) ∧ frz 39 (τ.set 0 (.cells [u] 0 0)) (.agg [u]) = some p.2.2) { vars := anyEnv (p.1 : Nat) (p.2.1 : Nat) G w n, scr := [] } σ
 | p :: l, h, q, hq => by
  have h' : tailC fc res tab 100000 (anyEnv (p.1 : Nat) (p.2.1 : Nat) G w n) fs (fun x => ifB (beqT x p.2.2) (allC fc res G w n fs l) none) = some (.bool true) := h
  have hw := tailC_W tab_ok 100000 hkl h1 h2 Z h'
  rcases List.mem_cons.1 hq with rfl | hq
  ·refine hw.mono fun e st τ hh => ?_
   obtain ⟨a1, v, a2, u, x, a3, a4, a5, a6⟩ := hh
   obtain ⟨b1, b2⟩ := ifB_some a6
   rw [beqT_eq b1] at a5
   exact ⟨a1, v, a2, u, a3, a4, a5⟩
  ·obtain ⟨m, e, st, τ, _, _, v, _, u, x, _, _, _, a6⟩ := hw
   obtain ⟨b1, b2⟩ := ifB_some a6
   exact allC_mem hkl h1 h2 Z b2 q hq
 | [], h, q, hq => by cases hq
/-- its fast text -/
theorem anyC_c : cco ixf S.ty S.pf A16 anyC = some cT16 := by kernel_rfl
noncomputable def copyChk (cs : List (Nat × Nat × T)) (G : T) (o b1 b2 b3 : V.Obj) : O :=
 match cres S.ty Tryz.f16.results.toList with
 | some res => newsK [.cells [.t .nils] 0 0, o, .cells [.t .nils] 0 0, b1, b2, b3] ⟨0, .e⟩ fun fs => frunK tab 100000 x38 [.t G] fs fun v fs1 => match v with
  | .agg [w] => onew fs1 (.cells [w] 0 0) fun fs2 => allC cT16 res G w fs1.n fs2 cs
  | _ => none
 | _ => none
theorem copyChk_some {cs : List (Nat × Nat × T)} {G : T} {o b1 b2 b3 : V.Obj} (h : copyChk cs G o b1 b2 b3 = some (.bool true)) :
  ∃ w σ', LD S 38 [.t G] [.cells [.t .nils] 0 0, o, .cells [.t .nils] 0 0, b1, b2, b3] = some (.agg [w], σ') ∧ ∀ p ∈ cs, W S A16 anyC (fun e st τ => (match e with | .exit _ => False | _ => True) ∧ ∃ v, (resultsV S.ty st τ Tryz.f16.results.toList).map joinV = some v ∧ ∃ u, v = .agg [u] ∧ τ[0]? = some (.cells [.t .nils] 0 0) ∧ frz 39 (τ.set 0 (.cells [u] 0 0)) (.agg [u]) = some p.2.2) { vars := anyEnv (p.1 : Nat) (p.2.1 : Nat) G w σ'.length, scr := [] } (σ' ++ [.cells [w] 0 0]) := by
 unfold copyChk at h
 split at h
 rotate_left
 ·cases h
 rename_i res h2
 obtain ⟨fs, Z, h⟩ := newsK_some Sto.nil h
 rw [List.nil_append] at Z
 obtain ⟨v, σ', fs1, q1, Z1, h⟩ := frunK_some tab_ok e38 rfl Z h
 split at h
 rotate_left
 ·cases h
 rename_i w
 obtain ⟨fs2, Z2, h⟩ := onew_some Z1 h
 refine ⟨w, σ', by rw [LD_inl (A := A38) rfl rfl rfl]; exact q1, fun p hp => ?_⟩
 have := allC_mem rfl anyC_c h2 Z2 h p hp
 rw [Z1.n] at this
 exact this
/-- all that l06Any may make of a grammar has P -/
def AnyG (P : T → Prop) (G : T) : Prop := ∃ cs, (∀ o b1 b2 b3, copyChk cs G o b1 b2 b3 = some (.bool true)) ∧ ∀ k y, k < 14 → y < 90 → ∃ X, (k, y, X) ∈ cs ∧ P X
@[local simp] theorem anyA1 : A16.vars = List.range 128 := rfl
@[local simp] theorem anyA2 : A16.kills = [] := rfl
@[local simp] theorem anyA3 : A16.bad = [] := rfl
@[local simp] theorem anyA4 : A16.dyn = [12, 16, 18] := rfl
@[local simp] theorem anyA5 : A16.pend = [] := rfl
@[local simp] theorem anyA6 : A16.owned = [(10, 3), (12, 5), (16, 7), (18, 4), (18, 10), (18, 12), (21, 1)] := rfl
theorem any_lv {P : T → Prop} {Q : T → Prop} (hP : PairsOk Q) (hQ : ∀ G, Q G → AnyG P G) {x : T} {l : List Int} (hx : BytesT x l) (hl : (l.length : Int) ≤ 1048576) {oc : V.Obj} (hC : CurO x l oc) :
  ∃ u σ' X, LV S 16 [.ptr 1 0 0 3] [.cells [.t .nils] 0 0, oc] = some (.agg [u], σ') ∧ σ'[0]? = some (.cells [.t .nils] 0 0) ∧ frz 39 (σ'.set 0 (.cells [u] 0 0)) (.agg [u]) = some X ∧ P X := by
 have hC0 : ∀ o b, CurO x l o → CurAt [.cells [.t .nils] 0 0, o, b] 1 x l := fun o b ho => ⟨o, rfl, ho⟩
 obtain ⟨k, o1, p1, p2, p3⟩ := below_ld hx hl (hC0 oc (.cells [.t .nils] 0 0) hC) (n := 14) (by omega) (by omega)
 obtain ⟨y, o2, q1, q2, q3⟩ := below_ld hx hl (hC0 o1 (.cells [.t .nils] 0 0) p3) (n := 90) (by omega) (by omega)
 obtain ⟨i, s, le, sa, sb, e1, G, e2, o3, b1, b2, b3, g1, g2, gQ, g3, g4⟩ := gram_ld hP hx hl (hC0 o2 (.cells [.t .nils] 0 0) q3)
 have p1' : LD S 37 [.ptr 1 0 0 3, .t (I 14)] [.cells [.t .nils] 0 0, oc, .cells [.t .nils] 0 0] = some (.t (I k), [.cells [.t .nils] 0 0, o1, .cells [.t .nils] 0 0]) := p1
 have q1' : LD S 37 [.ptr 1 0 0 3, .t (I 90)] [.cells [.t .nils] 0 0, o1, .cells [.t .nils] 0 0] = some (.t (I y), [.cells [.t .nils] 0 0, o2, .cells [.t .nils] 0 0]) := q1
 have g3' : LD S 39 [.ptr 1 0 0 3] [.cells [.t .nils] 0 0, o2, .cells [.t .nils] 0 0] = some (.t G, [.cells [.t .nils] 0 0, o3, .cells [.t .nils] 0 0, b1, b2, b3]) := g3
 obtain ⟨cs, hcs, hall⟩ := hQ G gQ
 obtain ⟨X, hm, hX⟩ := hall k y p2 q2
 obtain ⟨w, σ', hcopy, htail⟩ := copyChk_some (hcs o3 b1 b2 b3)
 have ht := htail _ hm
 suffices hh : ∃ v σ', LV S 16 [.ptr 1 0 0 3] [.cells [.t .nils] 0 0, oc] = some (v, σ') ∧ ∃ u, v = .agg [u] ∧ σ'[0]? = some (.cells [.t .nils] 0 0) ∧ frz 39 (σ'.set 0 (.cells [u] 0 0)) (.agg [u]) = some X by
  obtain ⟨v, σ', h1, u, rfl, h2, h3⟩ := hh
  exact ⟨u, σ', X, h1, h2, h3, hX⟩
 refine LV_bodyX (A := A16) rfl Tryz.func16 rfl ?_
 repeat apply wS
 refine wR (by simp; constructor <;> rfl) ?_
 try simp only [tq]
 repeat apply wS
 refine wR (by simp [p1']; constructor <;> rfl) ?_
 try simp only [tq]
 repeat apply wS
 refine wR (by simp [q1']; constructor <;> rfl) ?_
 try simp only [tq]
 repeat apply wS
 refine wR (by simp [g3', hcopy, getA, setA, fillV, setRange]; constructor <;> rfl) ?_
 try simp only [tq]
 exact ht
/-! ### The cases, by rows: what is drawn first (7 stands for all that turns nothing), then what is drawn second, again and again -/
def pick (PP : List (List T)) (k y : Nat) : T := (PP.getD (min k 7) []).getD (y % (PP.getD (min k 7) []).length) .nils
def csOf (PP : List (List T)) : List (Nat × Nat × T) := (List.range 14).flatMap fun k => (List.range 90).map fun y => (k, y, pick PP k y)
theorem getD_mem {α : Type} {l : List α} {n : Nat} (d : α) (h : n < l.length) : l.getD n d ∈ l := by
 rw [List.getD_eq_getElem?_getD, List.getElem?_eq_getElem h]
 exact List.getElem_mem h
theorem anyG_of {P : T → Prop} {G : T} {PP : List (List T)} (hl : PP.length = 8) (hne : ∀ r ∈ PP, 0 < r.length) (hP : ∀ r ∈ PP, ∀ X ∈ r, P X) (hc : ∀ o b1 b2 b3, copyChk (csOf PP) G o b1 b2 b3 = some (.bool true)) : AnyG P G := by
 refine ⟨csOf PP, hc, fun k y hk hy => ⟨pick PP k y, ?_, ?_⟩⟩
 ·simp only [csOf, List.mem_flatMap, List.mem_map, List.mem_range]
  exact ⟨k, hk, y, hy, rfl⟩
 ·have hm : PP.getD (min k 7) [] ∈ PP := getD_mem [] (by rw [hl]; omega)
  exact hP _ hm _ (getD_mem _ (Nat.mod_lt y (hne _ hm)))
end X
