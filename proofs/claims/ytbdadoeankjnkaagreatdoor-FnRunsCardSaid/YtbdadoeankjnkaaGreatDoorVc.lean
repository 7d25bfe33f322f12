/- A part of the proof. No statement of the claim is in it. -/
import Derived.Test.YtbdadoeankjnkaaGreatDoorVb
import Derived.LoopN
import Derived.Below
import Derived.ChangeSame
import Derived.RowKit
import Derived.WideKeyArgs
import Derived.ChangeArms
import Derived.DataReads
set_option linter.all false
set_option linter.deprecated false
/- Frames, calls, regions in the order of the text, control. -/
namespace Go.V

structure StRel (n : Nat) (A : Ann) (g : G) (st : St) (a : Act) : Prop where
 get : ∀ t, VR g (st.get t) (a.tmps.getD t undef)
 size : n ≤ a.tmps.size
 scr : ∀ t v, st.scr.find t = some v → A.vars.contains t = false
 vars : ∀ t v, st.vars.find t = some v → A.vars.contains t = true
 defers : a.defers = []

theorem StRel.mono {n : Nat} {A : Ann} {g g' : G} {st : St} {a : Act} (h : StRel n A g st a) (hle : g.Le g') : StRel n A g' st a :=
 ⟨fun t => VR.mono hle _ _ (h.get t), h.size, h.scr, h.vars, h.defers⟩

theorem StRel.eval {n : Nat} {A : Ann} {g : G} {st : St} {a : Act} (h : StRel n A g st a) (x : Operand) : VR g (st.eval x) (a.eval x) := by
 cases x with
 | tmp t => exact h.get t
 | const v =>
  simp only [St.eval, Act.eval]
  split
  ·rename_i x hx; simp only [VR]; exact qkx hx
  ·simp [VR, TR]
 | global g => simp [St.eval, VR, TR]
 | func f => simp [St.eval, Act.eval, VR, VRs]

theorem Env.find_put : ∀ (e : Env) (t : Nat) (v : V) (s : Nat), (e.put t v).find s = if t = s then some v else e.find s
 | [], t, v, s => by simp [Env.put, Env.find]
 | (k, u) :: r, t, v, s => by
  simp only [Env.put]
  split
  ·simp only [Env.find]
  ·split
   ·rename_i h; subst h
    simp only [Env.find]
    split <;> rfl
   ·rename_i h1 h2
    simp only [Env.find, Env.find_put r t v s]
    split
    ·rename_i hk
     rw [if_neg (by omega)]
    ·rfl

theorem Env.find_drop : ∀ (e : Env) (ks : List Nat) (s : Nat), (e.drop ks).find s = if ks.contains s then none else e.find s
 | [], ks, s => by simp [Env.drop, Env.find]
 | (k, u) :: r, ks, s => by
  simp only [Env.drop]
  split
  ·rename_i h
   rw [Env.find_drop r ks s]
   split
   ·rfl
   ·rename_i h2
    simp only [Env.find]
    rw [if_neg (by rintro rfl; exact h2 h)]
  ·rename_i h
   simp only [Env.find, Env.find_drop r ks s]
   split
   ·rename_i hk; subst hk
    rw [if_neg h]
   ·rfl

theorem St.get_put (A : Ann) (st : St) (t s : Nat) (v : V) (hs : ∀ t v, st.scr.find t = some v → A.vars.contains t = false) : (st.put A t v).get s = if t = s then v else st.get s := by
 by_cases hc : A.vars.contains t = true
 ·simp only [St.put, hc, if_true, St.get, Env.find_put]
  by_cases h : t = s
  ·subst h
   simp only [if_true]
   cases hz : st.scr.find t with
   | some u => rw [hs t u hz] at hc; cases hc
   | none => rfl
  ·simp only [h, if_false]
 ·simp only [St.put, hc, if_false, St.get, Env.find, Bool.false_eq_true]
  by_cases h : t = s
  ·subst h; simp
  ·simp only [h, if_false]

theorem quk (A : Ann) (st : St) (t : Nat) (v : V) (hs : ∀ t v, st.scr.find t = some v → A.vars.contains t = false) : ∀ s u, (st.put A t v).scr.find s = some u → A.vars.contains s = false := by
 intro s u h
 unfold St.put at h
 split at h
 ·exact hs s u h
 ·rename_i hc
  simp only [Env.find] at h
  split at h
  ·rename_i e; subst e; simpa using hc
  ·exact hs s u h

theorem qvv (A : Ann) (st : St) (t : Nat) (v : V) (hs : ∀ t v, st.vars.find t = some v → A.vars.contains t = true) : ∀ s u, (st.put A t v).vars.find s = some u → A.vars.contains s = true := by
 intro s u h
 unfold St.put at h
 split at h
 ·rename_i hc
  simp only [Env.find_put] at h
  split at h
  ·rename_i e; subst e; exact hc
  ·exact hs s u h
 ·exact hs s u h

theorem StRel.put {n : Nat} {A : Ann} {g : G} {st : St} {a : Act} (h : StRel n A g st a) {dst : Option Tmp} (hd : ∀ t, dst = some t → t < n) {v : V} {cv : Value} (hv : VR g v cv) : StRel n A g (st.putO A dst v) (a.put dst cv) := by
 cases dst with
 | none => exact h
 | some t =>
  have ht := hd t rfl
  have hsz := h.size
  refine ⟨fun s => ?_, by simpa [Act.put] using hsz, quk A st t v h.scr, qvv A st t v h.vars, h.defers⟩
  simp only [St.putO, St.get_put A st t s v h.scr, Act.put]
  by_cases e : t = s
  ·subst e
   rw [if_pos rfl]
   have : t < a.tmps.size := Nat.lt_of_lt_of_le ht hsz
   simp [Array.getD, this, hv]
  ·rw [if_neg e]
   have := h.get s
   have e2 : (a.tmps.setIfInBounds t cv).getD s undef = a.tmps.getD s undef := by
    simp only [Array.getD_eq_getD_getElem?, Array.getElem?_setIfInBounds, e, if_false]
   rw [e2]; exact this

theorem qfj {op : Op} {f : Operand} {args : Array Operand} (h : qcf op = some (f, args)) : ∃ ats, op = .call { callee := .value f, args := args, argTypes := ats } := by
 unfold qcf at h
 split at h
 ·cases h; exact ⟨_, rfl⟩
 ·cases h

def qiv (P : Program) (call : qbo) : Prop := ∀ f args σ v σ', call f args σ = some (v, σ') →
 (∃ fn, P.funcs[f]? = some fn ∧ fn.body.isNone = false ∧ (fn.name == "runtime.NumGoroutine") = false) ∧
 ∀ g w (cargs : Array Value), Inv g σ w → VRs g args cargs.toList →
   Calls P f cargs w fun e w' => ∃ cv g', e = .returned cv ∧ VR g' v cv ∧ Inv g' σ' w' ∧ Step g w g' w'

theorem VRs.append {g : G} : ∀ {xs ys : List V} {l m : List Value}, VRs g xs l → VRs g ys m → VRs g (xs ++ ys) (l ++ m)
 | [], ys, l, m, h, h' => by simp only [VRs] at h; subst h; exact h'
 | x :: xs, ys, l, m, h, h' => by
  simp only [VRs] at h
  obtain ⟨v, r, rfl, h1, h2⟩ := h
  simp only [List.cons_append, VRs]
  exact ⟨v, r ++ m, rfl, h1, VRs.append h2 h'⟩

/-- What an operation gives, of operands that are related: what stands behind it is shown of what it leaves. -/
theorem qiq {P : Program} {call : qbo} (hcall : qiv P call) {pf : FuncId → Bool} {ty : TypeId → Option TI} (hty : ∀ t x, ty t = some x → tiOf P t = some x) {owned draw : Bool} {o : Oper} {ρ : Operand → V} {σ σ' : Store} {v : V}
  (h : opV call pf ty owned draw o.op ρ σ = some (v, σ')) {g : G} {a : Act} {w : World} (I : Inv g σ w) (hρ : ∀ x, VR g (ρ x) (a.eval x)) {next : Act → World → Prop} {Q : Exit → Act → World → Prop}
  (hn : ∀ g' cv w', Inv g' σ' w' → VR g' v cv → Step g w g' w' → next (a.put o.dst cv) w') : o.wp P a w next Q := by
 unfold opV at h
 split at h
 ·rename_i f args hcal
  obtain ⟨ats, hop⟩ := qfj hcal
  split at h
  ·rename_i fid caps hf
   have hc : call fid (args.toList.map ρ ++ caps) σ = some (v, σ') := by
    split at h
    ·split at h
     ·exact h
     ·cases h
    ·exact h
   obtain ⟨⟨fn, q1, q2, q3⟩, q4⟩ := hcall _ _ _ _ _ hc
   have hfv := hρ f
   rw [hf] at hfv
   simp only [VR] at hfv
   obtain ⟨ca, hca, hcr⟩ := hfv
   have hargs : VRs g (args.toList.map ρ ++ caps) ((args.map a.eval ++ ca).toList) := by
    rw [Array.toList_append, Array.toList_map]
    exact VRs.append (qmc hρ _) hcr
   have hrun : (execOp a.eval o).run P w = .ok (.enter fid (args.map a.eval ++ ca)) w := by
    unfold execOp
    rw [hop]
    simp only [resolve, hca, Deferred.ofValue, pure_bind, invoke, callFunc, Sem.run_bind, run_program, Result.andThen_ok, Array.empty_append, q1]
    rw [if_neg (by simpa using q3), if_neg (by rw [q2]; simp)]
    rfl
   unfold Oper.wp
   rw [hrun, Oper.upon_enter]
   refine (q4 g w _ I hargs).mono fun e w' hh => ?_
   obtain ⟨cv, g', rfl, h1, h2, h3⟩ := hh
   exact hn g' _ w' h2 h1 h3
  ·rename_i fid first hf
   have hc : call fid (first ++ args.toList.map ρ) σ = some (v, σ') := by
    split at h
    ·split at h
     ·exact h
     ·cases h
    ·exact h
   obtain ⟨⟨fn, q1, q2, q3⟩, q4⟩ := hcall _ _ _ _ _ hc
   have hfv := hρ f
   rw [hf] at hfv
   simp only [VR] at hfv
   obtain ⟨ca, hca, hcr⟩ := hfv
   have hargs : VRs g (first ++ args.toList.map ρ) ((ca ++ args.map a.eval).toList) := by
    rw [Array.toList_append, Array.toList_map]
    exact VRs.append hcr (qmc hρ _)
   have hrun : (execOp a.eval o).run P w = .ok (.enter fid (ca ++ args.map a.eval)) w := by
    unfold execOp
    rw [hop]
    simp only [resolve, hca, Deferred.ofValue, pure_bind, invoke, callFunc, Sem.run_bind, run_program, Result.andThen_ok, Array.append_empty, q1]
    rw [if_neg (by simpa using q3), if_neg (by rw [q2]; simp)]
    rfl
   unfold Oper.wp
   rw [hrun, Oper.upon_enter]
   refine (q4 g w _ I hargs).mono fun e w' hh => ?_
   obtain ⟨cv, g', rfl, h1, h2, h3⟩ := hh
   exact hn g' _ w' h2 h1 h3
  ·cases h
 ·split at h
  ·rename_i v' σ'' hs
   have hs' : qae ty owned ρ σ o.op = some (v, σ') := by
    split at h
    ·cases h
    ·cases h; exact hs
   obtain ⟨cv, w', g', hr, h1, h2, h3⟩ := qsv (P := P) hty I hρ hs'
   unfold Oper.wp
   rcases hr with hr | ⟨hr, rfl⟩
   ·rw [hr, Oper.upon_value]
    exact hn g' _ w' h2 h1 h3
   ·rw [hr, Oper.upon_skip]
    exact hn g' _ w' h2 h1 h3
  ·cases h

theorem qxg {g : G} : VR g (.t (.tup [])) undef := by
 simp only [VR, TR]
 exact ⟨#[], rfl, by simp [TRs]⟩

theorem qhm {g : G} {ops : Array Oper} {o : Oper} {get : Nat → V} {a : Act} (hget : ∀ j b d, o.guard = some (j, b) → (ops[j]?).bind (·.dst) = some d → VR g (get d) (a.tmps.getD d undef)) {r : Bool} (h : qfo ops get o = some r) : Region.wanted o (yielded ops a.tmps) = r := by
 unfold qfo at h
 split at h
 ·rename_i hg
  cases h
  simp [Region.wanted, hg]
 ·rename_i j b hg
  split at h
  ·rename_i d hdst
   split at h
   ·rename_i b' hb
    cases h
    have hv := hget j b d hg hdst
    rw [hb] at hv
    simp only [VR, TR] at hv
    have hy : yielded ops a.tmps j = some b' := by
     have hlt : d < a.tmps.size ∨ ¬ d < a.tmps.size := Decidable.em _
     rcases hlt with hlt | hlt
     ·have e : a.tmps[d]? = some (.bool b') := by
       rw [Array.getElem?_eq_getElem hlt]
       simp [Array.getD, hlt] at hv
       rw [hv]
      simp [yielded, hdst, e]
     ·simp [Array.getD, hlt, undef] at hv
    simp [Region.wanted, hg, hy]
   ·rename_i hb
    cases h
    have hv := hget j b d hg hdst
    rw [hb] at hv
    simp only [VR, TR] at hv
    obtain ⟨ar, hv, _⟩ := hv
    have hy : yielded ops a.tmps j = none := by
     have hlt : d < a.tmps.size ∨ ¬ d < a.tmps.size := Decidable.em _
     rcases hlt with hlt | hlt
     ·have e : a.tmps[d]? = some (.tuple ar) := by
       rw [Array.getElem?_eq_getElem hlt]
       simp [Array.getD, hlt] at hv
       rw [hv]
      simp [yielded, hdst, e]
     ·have e : a.tmps[d]? = none := by exact Array.getElem?_eq_none (Nat.le_of_not_lt hlt)
      simp [yielded, hdst, e]
    simp [Region.wanted, hg, hy]
   ·cases h
  ·cases h

/-- One operation. -/
theorem qtt {P : Program} {call : qbo} (hcall : qiv P call) {pf : FuncId → Bool} {ty : TypeId → Option TI} (hty : ∀ t x, ty t = some x → tiOf P t = some x) {n : Nat} {A : Ann} {id i : Nat} {draw : Bool} {ops : Array Oper} {o : Oper} {st st' : St} {σ σ' : Store}
  (h : qcw call pf ty A id draw ops i o st σ = some (st', σ')) (hd : ∀ t, o.dst = some t → t < n) {g : G} {a : Act} {w : World} (I : Inv g σ w) (R : StRel n A g st a) {next : Act → World → Prop} {Q : Exit → Act → World → Prop}
  (hn : ∀ g' a' w', Inv g' σ' w' → StRel n A g' st' a' → Step g w g' w' → next a' w') :
  if Region.wanted o (yielded ops a.tmps) then o.wp P a w next Q else next (a.put o.dst undef) w := by
 unfold qcw at h
 split at h
 ·rename_i hw
  rw [if_pos (qhm (g := g) (fun _ _ d _ _ => R.get d) hw)]
  split at h
  ·rename_i v σ'' ho
   cases h
   exact qiq hcall hty ho I R.eval fun g' cv w' I' hv S' => hn g' _ w' I' ((R.mono S'.le).put hd hv) S'
  ·cases h
 ·rename_i hw
  rw [if_neg (by rw [qhm (g := g) (fun _ _ d _ _ => R.get d) hw]; simp)]
  cases h
  exact hn g _ w I (R.put hd qxg) (Step.refl g w)
 ·cases h

theorem qjd {n : Nat} {ops : Array Oper} (hok : qxw n ops = true) {i : Nat} {o : Oper} (h0 : ops[i]? = some o) : ∀ t, o.dst = some t → t < n := by
 intro t ht
 simp only [qxw, List.all_eq_true] at hok
 have := hok o (by simp only [Array.mem_toList_iff]; exact Array.mem_of_getElem? h0)
 rw [ht] at this
 simpa using this

/-- A region in the order of the text. -/
theorem qki {P : Program} {call : qbo} (hcall : qiv P call) {pf : FuncId → Bool} {ty : TypeId → Option TI} (hty : ∀ t x, ty t = some x → tiOf P t = some x) {n : Nat} {A : Ann} {id : Nat} {draw : Bool} {ops : Array Oper} (hok : qxw n ops = true) {Q : Exit → Act → World → Prop} :
  ∀ (l : List Oper) (i : Nat) (st st' : St) (σ σ' : Store), (∀ j, l[j]? = ops[i + j]?) → qby call pf ty A id draw ops i l st σ = some (st', σ') → ∀ (g : G) (a : Act) (w : World), Inv g σ w → StRel n A g st a →
    (∀ g' a' w', Inv g' σ' w' → StRel n A g' st' a' → Step g w g' w' → Q .normal a' w') → wpOps P ops Q (List.range' i l.length) a w
 | [], i, st, st', σ, σ', _, h, g, a, w, I, R, hq => by
  simp only [qby, Option.some.injEq, Prod.mk.injEq] at h
  obtain ⟨rfl, rfl⟩ := h
  simp only [List.length_nil, List.range'_zero, wpOps]
  exact hq g a w I R (Step.refl g w)
 | o :: l, i, st, st', σ, σ', hl, h, g, a, w, I, R, hq => by
  have h0 : ops[i]? = some o := by simpa using (hl 0).symm
  simp only [qby] at h
  split at h
  ·rename_i st1 σ1 h1
   have := qtt hcall hty h1 (qjd hok h0) I R (next := wpOps P ops Q (List.range' (i + 1) l.length)) (Q := Q) (fun g' a' w' I' R' S' =>
    qki hcall hty hok l (i + 1) st1 st' σ1 σ' (fun j => by have := hl (j + 1); simpa [Nat.add_assoc, Nat.add_comm 1 j] using this) h g' a' w' I' R' (fun g2 a2 w2 I2 R2 S2 => hq g2 a2 w2 I2 R2 (S'.trans S2)))
   simp only [List.length_cons, List.range'_succ, wpOps, h0]
   split
   ·rename_i hw; rw [if_pos hw] at this; exact .inl this
   ·rename_i hw; rw [if_neg hw] at this; exact this
  ·cases h

/-! ### Control -/
def exOf : Ex → Exit
 | .normal => .normal
 | .exit id => .exit id
 | .ret => .ret

theorem StRel.kill {n : Nat} {A : Ann} {g : G} {st : St} {a : Act} (h : StRel n A g st a) (id : Nat) : StRel n A g (A.kill id st) a := by
 unfold Ann.kill
 split
 ·rename_i ks _
  refine ⟨fun t => ?_, h.size, h.scr, fun t v hv => ?_, h.defers⟩
  ·have := h.get t
   simp only [St.get] at this ⊢
   split
   ·rename_i v hv; rw [hv] at this; exact this
   ·rename_i hv
    rw [hv] at this
    simp only at this
    rw [Env.find_drop]
    by_cases hk : ks.contains t = true
    ·rw [if_pos hk]; simp [VR, TR]
    ·rw [if_neg hk]; exact this
  ·simp only [Env.find_drop] at hv
   split at hv
   ·cases hv
   ·exact h.vars t v hv
 ·exact h

theorem StRel.fresh {n : Nat} {A : Ann} {g : G} {st : St} {a : Act} (h : StRel n A g st a) : StRel n A g { st with scr := [] } a := by
 refine ⟨fun t => ?_, h.size, fun t v hh => by simp [Env.find] at hh, h.vars, h.defers⟩
 have := h.get t
 simp only [St.get] at this ⊢
 simp only [Env.find]
 cases hv : st.vars.find t with
 | none => simp [VR, TR]
 | some v =>
  have h1 := h.vars t v hv
  cases hs : st.scr.find t with
  | some u => have := h.scr t u hs; rw [h1] at this; cases this
  | none => rw [hs, hv] at this; exact this

end Go.V

/- Regions whose order is open: one walk in the order of the text serves. -/
namespace Go.V

/-! ### What must come before -/
def bitsOf (acc : Array Nat) (es : List Edge) : Nat := es.foldl (fun s e => if Region.binds .any e then s ||| 2 ^ e.on ||| acc.getD e.on 0 else s) 0

theorem qtb (acc : Array Nat) (i : Nat) : ∀ (es : List Edge) (s : Nat), (es.foldl (fun s e => if Region.binds .any e then s ||| 2 ^ e.on ||| acc.getD e.on 0 else s) s).testBit i = true →
  s.testBit i = true ∨ ∃ e ∈ es, Region.binds .any e = true ∧ (e.on = i ∨ (acc.getD e.on 0).testBit i = true)
 | [], s, h => .inl h
 | e :: es, s, h => by
  rw [List.foldl_cons] at h
  rcases qtb acc i es _ h with h1 | ⟨e', h1, h2⟩
  ·split at h1
   ·rename_i hb
    simp only [Nat.testBit_or, Bool.or_eq_true] at h1
    rcases h1 with (h1 | h1) | h1
    ·exact .inl h1
    ·rw [Nat.testBit_two_pow] at h1
     exact .inr ⟨e, by simp, hb, .inl (by simpa using h1)⟩
    ·exact .inr ⟨e, by simp, hb, .inr h1⟩
   ·exact .inl h1
  ·exact .inr ⟨e', by simp [h1], h2⟩

def befL : List Oper → Array Nat → Array Nat
 | [], acc => acc
 | o :: r, acc => befL r (acc.push (bitsOf acc o.after.toList))

theorem qsk (ops : Array Oper) : Region.before ops = befL ops.toList #[] := by
 have : ∀ (l : List Oper) (acc : Array Nat), l.foldl (fun acc o => acc.push (o.after.foldl (fun s e => if Region.binds .any e then s ||| 2 ^ e.on ||| acc.getD e.on 0 else s) 0)) acc = befL l acc := by
  intro l
  induction l with
  | nil => intro acc; rfl
  | cons o r ih =>
   intro acc
   rw [List.foldl_cons, ih]
   simp only [befL, bitsOf, Array.foldl_toList]
 unfold Region.before
 rw [← Array.foldl_toList]
 exact this _ _

theorem qps : ∀ (l : List Oper) (acc : Array Nat) (j : Nat), j < acc.size → (befL l acc).getD j 0 = acc.getD j 0
 | [], acc, j, _ => rfl
 | o :: r, acc, j, h => by
  rw [befL, qps r _ j (by simp; omega)]
  simp only [Array.getD_eq_getD_getElem?]
  rw [Array.getElem?_push_lt h, Array.getElem?_eq_getElem h]

theorem qrg : ∀ (l : List Oper) (acc : Array Nat) (j i : Nat) (o : Oper), l[j]? = some o → ((befL l acc).getD (acc.size + j) 0).testBit i = true →
  ∃ e ∈ o.after.toList, Region.binds .any e = true ∧ (e.on = i ∨ (e.on < acc.size + j ∧ ((befL l acc).getD e.on 0).testBit i = true))
 | [], _, j, _, _, h, _ => by simp at h
 | p :: r, acc, 0, i, o, h, hb => by
  simp at h; subst h
  rw [befL, Nat.add_zero, qps r _ _ (by simp)] at hb
  simp only [Array.getD_eq_getD_getElem?, Array.getElem?_push_size, Option.getD_some] at hb
  rcases qtb acc i _ _ hb with h1 | ⟨e, h1, h2, h3⟩
  ·simp at h1
  ·refine ⟨e, h1, h2, ?_⟩
   rcases h3 with h3 | h3
   ·exact .inl h3
   ·have hlt : e.on < acc.size := by
     rcases Nat.lt_or_ge e.on acc.size with h' | h'
     ·exact h'
     ·simp [Array.getD_eq_getD_getElem?, Array.getElem?_eq_none h'] at h3
    refine .inr ⟨by omega, ?_⟩
    rw [befL, qps r _ _ (by simp; omega)]
    simp only [Array.getD_eq_getD_getElem?] at h3 ⊢
    rw [Array.getElem?_push_lt hlt]
    rw [Array.getElem?_eq_getElem hlt] at h3
    exact h3
 | p :: r, acc, j + 1, i, o, h, hb => by
  simp at h
  have := qrg r (acc.push (bitsOf acc p.after.toList)) j i o h (by rw [befL] at hb; rw [show (acc.push (bitsOf acc p.after.toList)).size + j = acc.size + (j + 1) by simp; omega]; exact hb)
  obtain ⟨e, h1, h2, h3⟩ := this
  refine ⟨e, h1, h2, ?_⟩
  rw [befL]
  rcases h3 with h3 | ⟨h3, h4⟩
  ·exact .inl h3
  ·exact .inr ⟨by simp at h3; omega, h4⟩

/-- What stands before a listed operation is listed. -/
theorem qfg {ops : Array Oper} {S : Nat → Prop} (hS : ∀ j o, S j → ops[j]? = some o → ∀ e ∈ o.after, Region.binds .any e = true → S e.on) (hlt : ∀ j, S j → j < ops.size) :
  ∀ (j i : Nat), S j → ((Region.before ops).getD j 0).testBit i = true → S i := by
 intro j
 induction j using Nat.strongRecOn with
 | _ j ih =>
  intro i hj hb
  have hlt' := hlt j hj
  have h0 : ops.toList[j]? = some ops[j] := by simp
  rw [qsk] at hb
  have := qrg ops.toList #[] j i ops[j] h0 (by simpa using hb)
  obtain ⟨e, h1, h2, h3⟩ := this
  have hSe : S e.on := hS j ops[j] hj (by simp) e (by simpa using h1) h2
  rcases h3 with rfl | ⟨h3, h4⟩
  ·exact hSe
  ·rw [← qsk] at h4
   exact ih e.on (by simpa using h3) i hSe h4

/-! ### Latest writer -/
def Cur {α : Type} (S W : Nat → Prop) (val : Nat → α) (x0 x : α) : Prop :=
 (∃ i, S i ∧ W i ∧ x = val i ∧ ∀ k, S k → W k → k ≤ i) ∨ ((∀ k, S k → ¬ W k) ∧ x = x0)

theorem Cur.start {α : Type} {W : Nat → Prop} {val : Nat → α} {x0 : α} : Cur (fun _ => False) W val x0 x0 := .inr ⟨fun _ h => h.elim, rfl⟩

theorem Cur.at {α : Type} {S W : Nat → Prop} {val seq : Nat → α} {x0 x : α} (h : Cur S W val x0 x) (j : Nat) (h0 : seq 0 = x0) (hstep : ∀ i, i < j → (W i → seq (i + 1) = val i) ∧ (¬ W i → seq (i + 1) = seq i)) (hSW : ∀ i, W i → (S i ↔ i < j)) : x = seq j := by
 have none : ∀ m k, k ≤ m → m ≤ j → (∀ i, k ≤ i → i < m → ¬ W i) → seq m = seq k := by
  intro m
  induction m with
  | zero =>
   intro k hk _ _
   have e : k = 0 := Nat.le_zero.1 hk
   rw [e]
  | succ m ih =>
   intro k hk hm hn
   by_cases e : k = m + 1
   ·rw [e]
   ·rw [(hstep m (by omega)).2 (hn m (by omega) (by omega))]
    exact ih k (by omega) (by omega) (fun i h1 h2 => hn i h1 (by omega))
 rcases h with ⟨i, hS, hW, rfl, hmax⟩ | ⟨hno, rfl⟩
 ·have hij := (hSW i hW).1 hS
  rw [none j (i + 1) (by omega) (Nat.le_refl _) (fun k h1 h2 hk => by have := hmax k ((hSW k hk).2 h2) hk; omega)]
  exact ((hstep i hij).1 hW).symm
 ·rw [none j 0 (by omega) (Nat.le_refl _) (fun k _ h2 hk => hno k ((hSW k hk).2 h2) hk), h0]

theorem Cur.write {α : Type} {S W : Nat → Prop} {val : Nat → α} {x0 : α} {j : Nat} (hW : W j) (hmax : ∀ k, S k → W k → k < j) : Cur (fun i => S i ∨ i = j) W val x0 (val j) :=
 .inl ⟨j, .inr rfl, hW, rfl, fun k hk hw => by
  rcases hk with hk | rfl
  ·exact Nat.le_of_lt (hmax k hk hw)
  ·exact Nat.le_refl _⟩

theorem Cur.keep {α : Type} {S W : Nat → Prop} {val : Nat → α} {x0 x : α} {j : Nat} (h : Cur S W val x0 x) (hW : ¬ W j) : Cur (fun i => S i ∨ i = j) W val x0 x := by
 rcases h with ⟨i, hS, hWi, rfl, hmax⟩ | ⟨hno, rfl⟩
 ·exact .inl ⟨i, .inl hS, hWi, rfl, fun k hk hw => by
   rcases hk with hk | rfl
   ·exact hmax k hk hw
   ·exact absurd hw hW⟩
 ·exact .inr ⟨fun k hk hw => by
   rcases hk with hk | rfl
   ·exact hno k hk hw
   ·exact hW hw, rfl⟩

theorem Cur.unique {α : Type} {S W : Nat → Prop} {val : Nat → α} {x0 x y : α} (h : Cur S W val x0 x) (h' : Cur S W val x0 y) : x = y := by
 rcases h with ⟨i, hS, hW, rfl, hmax⟩ | ⟨hno, rfl⟩
 ·rcases h' with ⟨i', hS', hW', rfl, hmax'⟩ | ⟨hno', rfl⟩
  ·have := hmax _ hS' hW'; have := hmax' _ hS hW
   obtain rfl : i = i' := by omega
   rfl
  ·exact absurd hW (hno' i hS)
 ·rcases h' with ⟨i', hS', hW', rfl, hmax'⟩ | ⟨hno', rfl⟩
  ·exact absurd hW' (hno i' hS')
  ·rfl

theorem Cur.exists {α : Type} (S W : Nat → Prop) [DecidablePred S] [DecidablePred W] (val : Nat → α) (x0 : α) (n : Nat) (hlt : ∀ i, S i → i < n) : ∃ x, Cur S W val x0 x := by
 by_cases h : ∃ i, S i ∧ W i
 ·have key : ∀ m, (∃ i, i < m ∧ S i ∧ W i) → ∃ i, S i ∧ W i ∧ ∀ k, k < m → S k → W k → k ≤ i := by
   intro m
   induction m with
   | zero => rintro ⟨i, hi, _⟩; omega
   | succ m ih =>
    rintro ⟨i, hi, h1, h2⟩
    by_cases hm : S m ∧ W m
    ·exact ⟨m, hm.1, hm.2, fun k hk _ _ => by omega⟩
    ·by_cases him : i = m
     ·subst him; exact absurd ⟨h1, h2⟩ hm
     ·obtain ⟨i', a, b, c⟩ := ih ⟨i, by omega, h1, h2⟩
      refine ⟨i', a, b, fun k hk s w => ?_⟩
      by_cases e : k = m
      ·subst e; exact absurd ⟨s, w⟩ hm
      ·exact c k (by omega) s w
  obtain ⟨i, h1, h2⟩ := h
  obtain ⟨i', a, b, c⟩ := key n ⟨i, hlt i h1, h1, h2⟩
  exact ⟨_, .inl ⟨i', a, b, rfl, fun k s w => c k (hlt k s) s w⟩⟩
 ·exact ⟨x0, .inr ⟨fun k s w => h ⟨k, s, w⟩, rfl⟩⟩

/-! ### An operation looks at its operands alone -/
theorem qqp {ty : TypeId → Option TI} {owned : Bool} {ρ ρ' : Operand → V} {σ : Store} {op : Op} (h : ∀ x ∈ op.operands.toList, ρ x = ρ' x) : qae ty owned ρ σ op = qae ty owned ρ' σ op := by
 have lst : ∀ (l : List Operand), (∀ x ∈ l, ρ x = ρ' x) → l.map ρ = l.map ρ' := fun l hl => List.map_congr_left hl
 have prt : ∀ (l : List (Nat × Operand)), (∀ x ∈ l.map (·.2), ρ x = ρ' x) → (l.map fun p => (p.1, ρ p.2)) = l.map fun p => (p.1, ρ' p.2) := by
  intro l hl
  apply List.map_congr_left
  intro p hp
  rw [hl p.2 (List.mem_map_of_mem hp)]
 have opt : ∀ (o : Option Operand), (∀ x ∈ o.toArray.toList, ρ x = ρ' x) → o.map ρ = o.map ρ' := by
  intro o ho
  cases o with
  | none => rfl
  | some x => simp at ho; simp [ho]
 cases op with
 | build t parts => simp only [qae]; rw [prt parts.toList (by simpa [Op.operands] using h)]
 | buildSlice t n parts => simp only [qae]; rw [prt parts.toList (by simpa [Op.operands] using h)]
 | makeFunc f first caps =>
  cases f with
  | func f =>
   simp only [qae]
   rw [lst caps.toList (fun x hx => h x (by simp [Op.operands]; exact .inr (by simpa using hx))), lst first.toList (fun x hx => h x (by simp [Op.operands]; exact .inl (by simpa using hx)))]
  | _ => rfl
 | slice t x lo hi mx =>
  cases mx with
  | none =>
   simp only [qae]
   rw [h x (by simp [Op.operands]), opt lo (fun y hy => h y (by simp [Op.operands] at hy ⊢; exact .inr (.inl hy))), opt hi (fun y hy => h y (by simp [Op.operands] at hy ⊢; exact .inr (.inr hy)))]
  | some m => rfl
 | call c =>
  obtain ⟨cal, args, ats⟩ := c
  cases cal with
  | builtin b =>
   simp only [qae]
   rw [lst args.toList (fun x hx => h x (by simpa [Op.operands, Call.operands] using hx))]
  | _ => rfl
 | makeMap t r => cases r <;> rfl
 | _ => simp only [qae] <;> (try rfl) <;> simp [Op.operands] at h <;> simp [h]

theorem qiy {op : Op} {f : Operand} {args : Array Operand} (h : qcf op = some (f, args)) : f ∈ op.operands.toList ∧ ∀ x ∈ args.toList, x ∈ op.operands.toList := by
 obtain ⟨ats, rfl⟩ := qfj h
 simp only [Op.operands, Call.operands, Array.toList_append]
 exact ⟨by simp, fun x hx => by simp; exact .inr (by simpa using hx)⟩

theorem q0s {call : qbo} {pf : FuncId → Bool} {ty : TypeId → Option TI} {owned draw : Bool} {op : Op} {ρ ρ' : Operand → V} {σ : Store} (h : ∀ x ∈ op.operands.toList, ρ x = ρ' x) :
  opV call pf ty owned draw op ρ σ = opV call pf ty owned draw op ρ' σ := by
 unfold opV
 split
 ·rename_i f args hc
  obtain ⟨h1, h2⟩ := qiy hc
  rw [h f h1, List.map_congr_left (fun x hx => h x (h2 x hx))]
 ·rw [qqp h]

def qfv (call : qbo) (pf : FuncId → Bool) : Prop := ∀ f args σ v σ', pf f = true → (allT args).isSome = true → call f args σ = some (v, σ') → σ' = σ ∧ ∀ σ2, call f args σ2 = some (v, σ2)

theorem q4h {σ : Store} {o : Obj} : Nat.beq (σ ++ [o]).length σ.length = false := by
 rw [← Bool.not_eq_true, Nat.beq_eq]; simp

theorem beq_self (n : Nat) : Nat.beq n n = true := by rw [Nat.beq_eq]

/-- An operation that does not look at the store. -/
theorem qry {call : qbo} {pf : FuncId → Bool} (hp : qfv call pf) {ty : TypeId → Option TI} {owned : Bool} {op : Op} {ρ : Operand → V} {σ σ' : Store} {v : V} (hf : ∀ f, ρ (.func f) = .fn f []) (hc : cls ty pf owned op = 0)
  (h : opV call pf ty owned true op ρ σ = some (v, σ')) : σ' = σ ∧ ∀ σ2, opV call pf ty owned true op ρ σ2 = some (v, σ2) := by
 unfold opV at h ⊢
 split at h
 ·rename_i f args hcal
  obtain ⟨ats, rfl⟩ := qfj hcal
  cases f with
  | func g =>
   simp only [cls] at hc
   have hpf : pf g = true := by
    cases hh : pf g with
    | true => rfl
    | false => simp [hh] at hc
   rw [hf g] at h ⊢
   simp only [hpf, Bool.and_self, if_true, List.append_nil] at h ⊢
   cases ha : allT (args.toList.map ρ) with
   | none => simp [ha] at h
   | some ts =>
    simp only [ha] at h ⊢
    exact hp g _ σ v σ' hpf (by rw [ha]; rfl) h
  | tmp t => simp [cls] at hc
  | const c => simp [cls] at hc
  | global c => simp [cls] at hc
 ·rename_i hcal
  split at h
  rotate_left
  ·cases h
  rename_i v' σ'' hs
  simp only [hc, beq_self, Bool.true_and, Bool.and_true] at h ⊢
  split at h
  ·cases h
  rename_i hlen
  simp only [Bool.not_eq_true', Bool.not_eq_false, Bool.not_eq_true] at hlen
  cases h
  have hlen' : Nat.beq σ'.length σ.length = true := by simpa using hlen
  clear hlen
  have key : σ' = σ ∧ ∀ σ2, qae ty owned ρ σ2 op = some (v, σ2) := by
   have opt : ∀ {α : Type} {o : Option α} {f : α → V}, (o.map fun x => (f x, σ)) = some (v, σ') → σ' = σ ∧ ∀ σ2 : Store, (o.map fun x => (f x, σ2)) = some (v, σ2) := by
    intro α o f hh
    cases o with
    | none => simp at hh
    | some x => simp at hh; obtain ⟨rfl, rfl⟩ := hh; exact ⟨rfl, fun _ => rfl⟩
   have fin : ∀ {a : V}, some (a, σ) = some (v, σ') → σ' = σ ∧ ∀ σ2 : Store, some (a, σ2) = some (v, σ2) := by
    intro a hh
    cases hh
    exact ⟨rfl, fun _ => rfl⟩
   cases op with
   | move x => simp only [qae] at hs ⊢; exact fin hs
   | assign x => simp only [qae] at hs ⊢; exact fin hs
   | pick c a b =>
    simp only [qae] at hs ⊢
    split at hs
    ·exact fin hs
    ·exact fin hs
    ·cases hs
   | build t parts => simp only [qae] at hs ⊢; exact opt hs
   | nilCheck x =>
    simp only [qae] at hs ⊢
    split at hs
    ·exact fin hs
    ·exact fin hs
    ·exact fin hs
    ·cases hs
   | binOp op t x y yt => simp only [qae] at hs ⊢; exact opt hs
   | unOp op t x => simp only [qae] at hs ⊢; exact opt hs
   | makeFunc f first caps =>
    cases f with
    | func f =>
     simp only [qae] at hs ⊢
     split at hs
     ·rename_i h1; simp only [if_pos h1]; exact fin hs
     ·rename_i h1
      simp only [if_neg h1]
      split at hs
      ·rename_i h2; simp only [if_pos h2]; exact fin hs
      ·cases hs
    | _ => simp [qae] at hs
   | slice t x lo hi mx =>
    cases mx with
    | some m => simp [qae] at hs
    | none =>
     simp only [qae] at hs ⊢
     split at hs
     ·split at hs
      ·rename_i h1; simp only [if_pos h1]; exact opt hs
      ·cases hs
     ·split at hs
      ·split at hs
       ·rename_i h1; simp only [if_pos h1]; exact opt hs
       ·cases hs
      ·cases hs
     ·cases hs
   | fieldAddr s x f =>
    simp only [qae] at hs ⊢
    split at hs
    ·split at hs
     ·cases hs
     ·rename_i h0
      simp only [if_neg h0]
      split at hs
      ·split at hs
       ·rename_i h1; simp only [if_pos h1]; exact fin hs
       ·cases hs
      ·split at hs
       ·rename_i h1; simp only [if_pos h1]; exact fin hs
       ·cases hs
      ·cases hs
    ·cases hs
   | field s x f =>
    simp only [qae] at hs ⊢
    split at hs
    ·exact opt hs
    ·cases hs
   | indexAddr t x i =>
    simp only [qae] at hs ⊢
    split at hs
    ·split at hs
     ·exact opt hs
     ·cases hs
    ·cases hs
   | index t x i =>
    simp only [qae] at hs ⊢
    split at hs
    ·split at hs
     ·rename_i h1
      simp only [if_pos h1]
      split at hs
      ·exact fin hs
      ·cases hs
     ·cases hs
    ·cases hs
   | extract x i =>
    simp only [qae] at hs ⊢
    split at hs
    ·exact opt hs
    ·exact opt hs
    ·cases hs
   | buildSlice t len parts =>
    simp only [qae] at hs ⊢
    simp only [cls] at hc
    have ho : owned = false := by
     cases hh : owned with
     | true => simp [hh] at hc
     | false => rfl
    split at hs
    rotate_left
    ·cases hs
    rename_i k cs hcs
    simp only [ho, Bool.false_eq_true, if_false] at hs ⊢
    split at hs
    ·exact fin hs
    ·simp only [Option.some.injEq, Prod.mk.injEq] at hs
     rw [← hs.2, q4h] at hlen'
     cases hlen'
   | convert s d x =>
    simp only [qae, qkl] at hs ⊢
    simp only [cls] at hc
    split at hc
    ·rename_i h1 h2
     simp only [h1, h2] at hs ⊢
     generalize ρ x = y at hs ⊢
     cases y with
     | t z => cases z <;> first | exact fin hs | cases hs
     | _ => cases hs
    ·rename_i h1 h2
     simp only [h1, h2] at hs ⊢
     generalize ρ x = y at hs ⊢
     cases y with
     | t z => cases z <;> first | exact fin hs | cases hs
     | _ => cases hs
    ·cases hc
   | call c =>
    obtain ⟨cal, args, ats⟩ := c
    cases cal with
    | builtin b =>
     cases b <;> simp only [cls, reduceCtorEq] at hc
     case len =>
      have hs2 : ∀ σ, qae ty owned ρ σ (.call { callee := .builtin .len, args := args, argTypes := ats }) = (match args.toList.map ρ, ats.toList with
        | [x], [t] => (match ty t with
         | some i => (lenV σ i.shape x).map fun n => (V.t (.int .i64 n), σ)
         | none => none)
        | _, _ => none) := by
       intro σ
       simp only [qae]
       generalize args.toList.map ρ = l
       rcases l with _ | ⟨x, _ | ⟨y, l⟩⟩
       ·cases ats.toList <;> rfl
       ·rcases ats.toList with _ | ⟨t, _ | ⟨t', l'⟩⟩ <;> rfl
       ·cases ats.toList <;> rfl
      simp only [hs2] at hs ⊢
      revert hs
      generalize args.toList.map ρ = l
      rcases l with _ | ⟨x, _ | ⟨y, l⟩⟩
      ·intro hs; cases hs
      ·rcases ha : ats.toList with _ | ⟨t, _ | ⟨t', l'⟩⟩
       ·intro hs; cases hs
       ·intro hs
        rw [ha] at hc
        simp only at hc hs ⊢
        cases hi : ty t with
        | none => rw [hi] at hs; cases hs
        | some i =>
         rw [hi] at hs hc
         simp only at hs hc ⊢
         have : ∀ σ2, lenV σ2 i.shape x = lenV σ i.shape x := by
          intro σ2
          obtain ⟨ag, sz, by_, ze, sh, eq⟩ := i
          cases sh <;> first | (simp at hc; done) | (cases x <;> first | rfl | (rename_i y; cases y <;> rfl))
         simp only [this]
         exact opt hs
       ·intro hs; cases hs
      ·intro hs; cases hs
     case min => simp only [qae] at hs ⊢; exact opt hs
     case max => simp only [qae] at hs ⊢; exact opt hs
    | value f => simp [qae] at hs
    | invoke r m => simp [qae] at hs
   | _ => simp [cls] at hc
  obtain ⟨k1, k2⟩ := key
  refine ⟨k1, fun σ2 => ?_⟩
  rw [k2 σ2]
  simp [beq_self]

end Go.V

/- Regions whose order is open: the theorem. -/
namespace Go.V

theorem qly {call : qbo} {pf : FuncId → Bool} (hp : qfv call pf) {ty : TypeId → Option TI} {owned : Bool} {op : Op} {ρ : Operand → V} {σ σ' : Store} {v : V} (hf : ∀ f, ρ (.func f) = .fn f []) (hc : cls ty pf owned op ≠ 2)
  (h : opV call pf ty owned true op ρ σ = some (v, σ')) : σ' = σ := by
 by_cases h0 : cls ty pf owned op = 0
 ·exact (qry hp hf h0 h).1
 ·cases op with
  | load t a =>
   simp only [opV, qcf, qae] at h
   cases ht : ty t with
   | none => simp [ht] at h
   | some i =>
    rw [ht] at h
    cases hl : qbx σ i (ρ a) with
    | none => simp [hl] at h
    | some v' =>
     simp only [hl, Option.map_some] at h
     split at h
     ·cases h
     ·cases h; rfl
  | call c =>
   obtain ⟨cal, args, ats⟩ := c
   cases cal with
   | builtin b =>
    cases b <;> simp only [cls, ne_eq, not_true_eq_false, reduceCtorEq] at hc h0
    case len =>
     simp only [opV, qcf, qae] at h
     revert h
     generalize args.toList.map ρ = l
     rcases l with _ | ⟨x, _ | ⟨y, l⟩⟩
     ·intro h; cases h
     ·rcases ats.toList with _ | ⟨t, _ | ⟨t', l'⟩⟩
      ·intro h; cases h
      ·intro h
       simp only at h
       cases hi : ty t with
       | none => rw [hi] at h; cases h
       | some i =>
        rw [hi] at h
        simp only at h
        cases hl : lenV σ i.shape x with
        | none => rw [hl] at h; cases h
        | some m =>
         rw [hl] at h
         simp only [Option.map_some] at h
         split at h
         ·cases h
         ·cases h; rfl
      ·intro h; cases h
     ·intro h; cases h
   | value f =>
    cases f with
    | func g => simp only [cls] at hc h0; split at hc <;> simp_all
    | _ => simp [cls] at hc
   | invoke r m => simp [cls] at hc
  | buildSlice t len parts => simp only [cls] at hc h0; split at hc <;> simp_all
  | convert s d x => simp only [cls] at hc h0; split at hc <;> simp_all
  | _ => simp [cls] at hc h0

theorem qkh {call : qbo} {pf : FuncId → Bool} {ty : TypeId → Option TI} {A : Ann} {id : Nat} {draw : Bool} {ops : Array Oper} : ∀ (l : List Oper) (i : Nat) (st st' : St) (σ σ' : Store), qby call pf ty A id draw ops i l st σ = some (st', σ') →
  ∃ f : Nat → St × Store, f i = (st, σ) ∧ f (i + l.length) = (st', σ') ∧ ∀ k o, l[k]? = some o → qcw call pf ty A id draw ops (i + k) o (f (i + k)).1 (f (i + k)).2 = some (f (i + k + 1))
 | [], i, st, st', σ, σ', h => by
  simp only [qby, Option.some.injEq] at h
  exact ⟨fun _ => (st, σ), rfl, by simpa using h, fun k o hk => by simp at hk⟩
 | o :: l, i, st, st', σ, σ', h => by
  simp only [qby] at h
  split at h
  ·rename_i st1 σ1 h1
   obtain ⟨f, f0, fn, fs⟩ := qkh l (i + 1) st1 st' σ1 σ' h
   refine ⟨fun k => if k = i then (st, σ) else f k, by simp, ?_, fun k o' hk => ?_⟩
   ·show (if i + (o :: l).length = i then (st, σ) else f (i + (o :: l).length)) = (st', σ')
    rw [if_neg (by simp), ← fn]; congr 1; simp; omega
   ·cases k with
    | zero =>
     simp at hk; subst hk
     simp only [Nat.add_zero, if_true]
     rw [if_neg (by omega), h1, f0]
    | succ k =>
     simp at hk
     have e1 : (if i + (k + 1) = i then (st, σ) else f (i + (k + 1))) = f (i + 1 + k) := by rw [if_neg (by omega), show i + (k + 1) = i + 1 + k by omega]
     have e2 : (if i + (k + 1) + 1 = i then (st, σ) else f (i + (k + 1) + 1)) = f (i + 1 + k + 1) := by rw [if_neg (by omega), show i + (k + 1) + 1 = i + 1 + k + 1 by omega]
     have := fs k o' hk
     simp only [e1, e2]
     rw [show i + (k + 1) = i + 1 + k by omega]
     exact this
  ·cases h

def qgx (call : qbo) (pf : FuncId → Bool) (ty : TypeId → Option TI) (A : Ann) (id : Nat) (ops : Array Oper) (f : Nat → St × Store) (i : Nat) : V :=
 match ops[i]? with
 | some o => match qfo ops (f i).1.get o with
  | some true => match opV call pf ty (A.owned.contains (id, i)) true o.op (f i).1.eval (f i).2 with
   | some (v, _) => v
   | none => .t .undef
  | _ => .t (.tup [])
 | none => .t .undef

theorem qda {call : qbo} {pf : FuncId → Bool} {ty : TypeId → Option TI} {A : Ann} {id i : Nat} {ops : Array Oper} {o : Oper} {f : Nat → St × Store} (ho : ops[i]? = some o) (h : qcw call pf ty A id true ops i o (f i).1 (f i).2 = some (f (i + 1))) :
  (f (i + 1)).1 = (f i).1.putO A o.dst (qgx call pf ty A id ops f i) ∧
  ((qfo ops (f i).1.get o = some true ∧ opV call pf ty (A.owned.contains (id, i)) true o.op (f i).1.eval (f i).2 = some (qgx call pf ty A id ops f i, (f (i + 1)).2)) ∨
   (qfo ops (f i).1.get o = some false ∧ qgx call pf ty A id ops f i = .t (.tup []) ∧ (f (i + 1)).2 = (f i).2)) := by
 unfold qcw at h
 unfold qgx
 rw [ho]
 simp only
 split at h
 ·rename_i hw
  rw [hw]
  simp only
  split at h
  ·rename_i v σ' hv
   rw [hv]
   simp only [Option.some.injEq] at h
   rw [← h]
   exact ⟨rfl, .inl ⟨trivial, rfl⟩⟩
  ·cases h
 ·rename_i hw
  rw [hw]
  simp only [Option.some.injEq] at h
  rw [← h]
  exact ⟨rfl, .inr ⟨rfl, rfl, rfl⟩⟩
 ·cases h

structure DrawOk (ty : TypeId → Option TI) (pf : FuncId → Bool) (A : Ann) (id : Nat) (ops : Array Oper) : Prop where
 back : ∀ (i : Nat) (o : Oper), ops[i]? = some o → ∀ e ∈ o.after, Region.binds .any e = true → e.on < i
 guard : ∀ (i : Nat) (o : Oper) j b, ops[i]? = some o → o.guard = some (j, b) → ∃ e ∈ o.after, e.on = j ∧ Region.binds .any e = true
 tmp : ∀ (i j : Nat) (p o : Oper) d, ops[i]? = some p → ops[j]? = some o → i ≠ j → p.dst = some d → (o.dst = some d ∨ .tmp d ∈ o.op.operands.toList ∨ ∃ k b, o.guard = some (k, b) ∧ (ops[k]?).bind (·.dst) = some d) → ((Region.before ops).getD (max i j) 0).testBit (min i j) = true
 eff : ∀ (i j : Nat) (p o : Oper), ops[i]? = some p → ops[j]? = some o → i ≠ j → cls ty pf (A.owned.contains (id, i)) p.op = 2 → cls ty pf (A.owned.contains (id, j)) o.op ≠ 0 → ((qeo p.op || A.dyn.contains id) && qgz o.op) = false →
  ((Region.before ops).getD (max i j) 0).testBit (min i j) = true ∨ (i < j ∧ qew A id o = true) ∨ (j < i ∧ qew A id p = true ∧ cls ty pf (A.owned.contains (id, j)) o.op = 2)
 pnd : ∀ (i : Nat) (p : Oper), ops[i]? = some p → qew A id p = true →
  (∀ m q, ops[m]? = some q → m < i → cls ty pf (A.owned.contains (id, m)) q.op = 2 → ((Region.before ops).getD i 0).testBit m = true ∨ ∀ k, k < ops.size → ((Region.before ops).getD k 0).testBit i = true → ((Region.before ops).getD k 0).testBit m = true) ∧
  (∀ k o, ops[k]? = some o → k ≠ i → o.dst ≠ p.dst)

theorem qbh {ops : Array Oper} {i : Nat} {o : Oper} (h : ops[i]? = some o) : (o, i) ∈ ops.toList.zipIdx := by
 rw [List.mem_zipIdx_iff_getElem?]; simpa using h

theorem qva {ty : TypeId → Option TI} {pf : FuncId → Bool} {A : Ann} {id : Nat} {ops : Array Oper} (h : qwe ty pf A id ops = true) : DrawOk ty pf A id ops := by
 unfold qwe at h
 simp only [Bool.and_eq_true, List.all_eq_true] at h
 obtain ⟨⟨⟨h1, h2⟩, h3⟩, h4⟩ := h
 refine ⟨?_, ?_, ?_, ?_, ?_⟩
 ·intro i o ho e he hb
  have := h1 (o, i) (qbh ho) e (by simpa using he)
  simp only [hb, Bool.not_true, Bool.false_or] at this
  simpa [Nat.blt_eq] using this
 ·intro i o j b ho hg
  have := h2 (o, i) (qbh ho)
  simp only [hg, List.any_eq_true, Bool.and_eq_true] at this
  obtain ⟨e, he, h4, h5⟩ := this
  exact ⟨e, by simpa using he, by simpa [Nat.beq_eq] using h4, h5⟩
 ·intro i j p o d hp ho hij hd hn
  have := h3 (o, j) (qbh ho) (p, i) (qbh hp)
  simp only [Bool.or_eq_true, Bool.and_eq_true] at this
  rcases this with h' | ⟨h', _⟩
  ·exact absurd (by simpa [Nat.beq_eq] using h') hij
  ·rw [hd] at h'
   simp only [Bool.or_eq_true, Bool.not_eq_true'] at h'
   rcases h' with h' | h'
   ·exfalso
    rw [← Bool.not_eq_true, Bool.or_eq_true, Bool.or_eq_true] at h'
    apply h'
    rcases hn with hn | hn | ⟨k, b, hg, hn⟩
    ·left; left; simp [hn]
    ·left; right
     rw [List.any_eq_true]
     exact ⟨.tmp d, hn, by simp⟩
    ·right; rw [hg]; simp [hn]
   ·exact h'
 ·intro i j p o hp ho hij h4 h5 h6
  have := h3 (o, j) (qbh ho) (p, i) (qbh hp)
  simp only [Bool.or_eq_true, Bool.and_eq_true] at this
  rcases this with h' | ⟨_, h'⟩
  ·exact absurd (by simpa [Nat.beq_eq] using h') hij
  ·rcases h' with (((h' | h') | h') | h') | h'
   ·exfalso
    simp only [Bool.not_eq_true', h4, beq_self, Bool.true_and, Bool.not_eq_false'] at h'
    exact h5 (by simpa [Nat.beq_eq] using h')
   ·exfalso
    rw [← Bool.or_eq_true, ← Bool.and_eq_true, h6] at h'
    cases h'
   ·exact .inl h'
   ·exact .inr (.inl ⟨by simpa [Nat.blt_eq] using h'.1, h'.2⟩)
   ·exact .inr (.inr ⟨by simpa [Nat.blt_eq] using h'.1, h'.2.1, by simpa [Nat.beq_eq] using h'.2.2⟩)
 ·intro i p hp hpa
  have := h4 (p, i) (qbh hp)
  simp only [hpa, Bool.not_true, Bool.false_or, Bool.and_eq_true, List.all_eq_true] at this
  obtain ⟨h5, h6⟩ := this
  refine ⟨fun m q hq hm hc => ?_, fun k o ho hk => ?_⟩
  ·have := h5 (q, m) (qbh hq)
   simp only [Bool.or_eq_true, Bool.not_eq_true', List.all_eq_true] at this
   rcases this with ((h' | h') | h') | h'
   ·rw [← Bool.not_eq_true, Nat.blt_eq] at h'; exact absurd hm h'
   ·rw [hc, beq_self] at h'; cases h'
   ·exact .inl h'
   ·refine .inr fun k hk hb => ?_
    have := h' (ops[k], k) (qbh (by simp))
    rcases this with h'' | h''
    ·rw [hb] at h''; cases h''
    ·exact h''
  ·have := h6 (o, k) (qbh ho)
   simp only [Bool.or_eq_true, Bool.not_eq_true', Nat.beq_eq] at this
   rcases this with h' | h'
   ·exact absurd h' hk
   ·simpa using h'

theorem qvf {ty : TypeId → Option TI} {pf : FuncId → Bool} {owned : Bool} {op : Op} (h : qgz op = true) : cls ty pf owned op = 1 := by
 cases op <;> first | rfl | cases h
theorem qpt {ty : TypeId → Option TI} {pf : FuncId → Bool} {owned : Bool} {op : Op} (h : cls ty pf owned op = 2) : qgz op = false := by
 cases hl : qgz op with
 | false => rfl
 | true => rw [qvf hl] at h; cases h

theorem qzb {call : qbo} {pf : FuncId → Bool} {ty : TypeId → Option TI} {owned draw : Bool} {op : Op} {ρ : Operand → V} {σ σ' : Store} {v : V} (ha : qeo op = true) (h : opV call pf ty owned draw op ρ σ = some (v, σ')) : ∃ os, σ' = σ ++ os := by
 have h' : ∃ v', qae ty owned ρ σ op = some (v', σ') := by
  cases op <;> simp only [qeo, Bool.false_eq_true, reduceCtorEq] at ha <;>
  ·simp only [opV, qcf] at h
   split at h
   ·rename_i v' τ hs
    split at h
    ·cases h
    ·cases h; exact ⟨_, hs⟩
   ·cases h
 obtain ⟨v', h'⟩ := h'
 cases op <;> simp only [qeo, Bool.false_eq_true, reduceCtorEq] at ha
 case alloc e =>
  simp only [qae] at h'
  split at h'
  ·split at h'
   ·cases h'; exact ⟨_, rfl⟩
   ·cases h'
  ·cases h'
 case box e x =>
  simp only [qae] at h'
  split at h'
  ·cases h'; exact ⟨_, rfl⟩
  ·cases h'
 case buildSlice t len parts =>
  simp only [qae] at h'
  split at h'
  ·split at h'
   ·cases h'; exact ⟨_, rfl⟩
   ·split at h'
    ·cases h'; exact ⟨[], by simp⟩
    ·cases h'; exact ⟨_, rfl⟩
  ·cases h'
 case makeMap t r =>
  cases r with
  | none => simp only [qae] at h'; cases h'; exact ⟨_, rfl⟩
  | some r => simp only [qae] at h'; cases h'
 case makeSlice t l c =>
  simp only [qae] at h'
  split at h'
  ·split at h'
   ·split at h'
    ·split at h'
     ·split at h'
      ·cases h'; exact ⟨[], by simp⟩
      ·cases h'; exact ⟨_, rfl⟩
     ·cases h'
    ·cases h'
   ·cases h'
  ·cases h'

theorem qqw {σ os : Store} {i : TI} {x v : V} (h : qbx σ i x = some v) : qbx (σ ++ os) i x = some v := by
 unfold qbx at h ⊢
 split at h
 ·rename_i loc g off ext
  split at h
  ·rename_i cs gen wgen hs
   have : (σ ++ os)[loc]? = some (.cells cs gen wgen) := by rw [List.getElem?_append_left (List.getElem?_eq_some_iff.1 hs).1]; exact hs
   rw [this]
   exact h
  ·cases h
 ·exact h
 ·cases h

theorem qqk {σ os : Store} {i : TI} {x v : V} (hx : ∀ loc g off ext, x = .ptr loc g off ext → loc < σ.length) (h : qbx (σ ++ os) i x = some v) : qbx σ i x = some v := by
 unfold qbx at h ⊢
 split at h
 ·rename_i loc g off ext
  have hl := hx _ _ _ _ rfl
  rw [List.getElem?_append_left hl] at h
  exact h
 ·exact h
 ·cases h

theorem qgr : ∀ {a b : List Nat}, eqL a b = true → a = b
 | [], [], _ => rfl
 | [], _ :: _, h => by cases h
 | _ :: _, [], h => by cases h
 | x :: a, y :: b, h => by
  simp only [eqL, Bool.and_eq_true] at h
  rw [Nat.eq_of_beq_eq_true h.1, qgr h.2]
theorem beqK_eq {j k : IntKind} (h : beqK j k = true) : j = k := by cases j <;> cases k <;> first | rfl | cases h
theorem beqI_eq {a b : Int} (h : beqI a b = true) : a = b := by
 cases a <;> cases b <;> first | (cases h; done) | (rw [Nat.eq_of_beq_eq_true h])
theorem beqB_eq {a b : Bool} (h : beqB a b = true) : a = b := by cases a <;> cases b <;> first | rfl | cases h
mutual
theorem qqg : ∀ {a b : T}, beqT a b = true → a = b
 | .undef, b, h => by cases b <;> first | rfl | simp [beqT] at h
 | .bool x, b, h => by
  cases b <;> first | (simp [beqT] at h; done) | skip
  simp only [beqT] at h
  rw [beqB_eq h]
 | .int j x, b, h => by
  cases b <;> first | (simp [beqT] at h; done) | skip
  simp only [beqT, Bool.and_eq_true] at h
  rw [beqK_eq h.1, beqI_eq h.2]
 | .str x, b, h => by
  cases b <;> first | (simp [beqT] at h; done) | skip
  simp only [beqT] at h
  rw [qgr h]
 | .nilp, b, h => by cases b <;> first | rfl | simp [beqT] at h
 | .nils, b, h => by cases b <;> first | rfl | simp [beqT] at h
 | .nilm, b, h => by cases b <;> first | rfl | simp [beqT] at h
 | .nilf, b, h => by cases b <;> first | rfl | simp [beqT] at h
 | .agg x, b, h => by
  cases b <;> first | (simp [beqT] at h; done) | skip
  simp only [beqT] at h
  rw [qit h]
 | .tup x, b, h => by
  cases b <;> first | (simp [beqT] at h; done) | skip
  simp only [beqT] at h
  rw [qit h]
 | .list x, b, h => by
  cases b <;> first | (simp [beqT] at h; done) | skip
  simp only [beqT] at h
  rw [qit h]
 | .snap x, b, h => by
  cases b <;> first | (simp [beqT] at h; done) | skip
  simp only [beqT] at h
  rw [qit h]
theorem qit : ∀ {a b : List T}, qle a b = true → a = b
 | [], [], _ => rfl
 | [], _ :: _, h => by simp [qle] at h
 | _ :: _, [], h => by simp [qle] at h
 | x :: a, y :: b, h => by
  simp only [qle, Bool.and_eq_true] at h
  rw [qqg h.1, qit h.2]
end
mutual
theorem q0f : ∀ {a b : V}, beqV a b = true → a = b
 | .t x, b, h => by
  cases b <;> first | (simp [beqV] at h; done) | skip
  simp only [beqV] at h
  rw [qqg h]
 | .sl a b c d e, v, h => by
  cases v <;> first | (simp [beqV] at h; done) | skip
  simp only [beqV, Bool.and_eq_true, Nat.beq_eq] at h
  obtain ⟨rfl, rfl, rfl, rfl, rfl⟩ := h
  rfl
 | .ptr a b c d, v, h => by
  cases v <;> first | (simp [beqV] at h; done) | skip
  simp only [beqV, Bool.and_eq_true, Nat.beq_eq] at h
  obtain ⟨rfl, rfl, rfl, rfl⟩ := h
  rfl
 | .mp a, v, h => by
  cases v <;> first | (simp [beqV] at h; done) | skip
  simp only [beqV, Nat.beq_eq] at h
  rw [h]
 | .fn f cs, v, h => by
  cases v <;> first | (simp [beqV] at h; done) | skip
  simp only [beqV, Bool.and_eq_true] at h
  rw [Nat.eq_of_beq_eq_true h.1, qid h.2]
 | .bm f cs, v, h => by
  cases v <;> first | (simp [beqV] at h; done) | skip
  simp only [beqV, Bool.and_eq_true] at h
  rw [Nat.eq_of_beq_eq_true h.1, qid h.2]
 | .agg cs, v, h => by
  cases v <;> first | (simp [beqV] at h; done) | skip
  simp only [beqV] at h
  rw [qid h]
 | .tup cs, v, h => by
  cases v <;> first | (simp [beqV] at h; done) | skip
  simp only [beqV] at h
  rw [qid h]
theorem qid : ∀ {a b : List V}, qmy a b = true → a = b
 | [], [], _ => rfl
 | [], _ :: _, h => by simp [qmy] at h
 | _ :: _, [], h => by simp [qmy] at h
 | x :: a, y :: b, h => by
  simp only [qmy, Bool.and_eq_true] at h
  rw [q0f h.1, qid h.2]
end

theorem qwv {w : Nat} : ∀ {l : List Nat}, memN w l = true → w ∈ l
 | [], h => by cases h
 | x :: r, h => by
  simp only [memN] at h
  split at h
  ·rename_i e; rw [Nat.eq_of_beq_eq_true e]; simp
  ·simp [qwv h]
theorem qjw {b : Array Nat} {w i : Nat} (h : memN w (stops b i) = true) : w < i ∧ (b.getD i 0).testBit w = true := by
 have := qwv h
 simp only [stops, List.mem_filter, List.mem_range] at this
 exact this

def qfu (ops : Array Oper) (t : Nat) (i : Nat) : Prop := ∃ o, ops[i]? = some o ∧ o.dst = some t
def WrAt (ty : TypeId → Option TI) (pf : FuncId → Bool) (A : Ann) (id : Nat) (ops : Array Oper) (i : Nat) : Prop := ∃ o, ops[i]? = some o ∧ cls ty pf (A.owned.contains (id, i)) o.op = 2
def PdAt (A : Ann) (id : Nat) (ops : Array Oper) (i : Nat) : Prop := ∃ o, ops[i]? = some o ∧ qew A id o = true

/-- Those of the listed that the walk counts as done: a pending alloc is not, while a writer that stands ahead of it in the text is missing. -/
def TOf (ty : TypeId → Option TI) (pf : FuncId → Bool) (A : Ann) (id : Nat) (ops : Array Oper) (S : Nat → Prop) (i : Nat) : Prop :=
 S i ∧ (PdAt A id ops i → ∀ q, q < i → WrAt ty pf A id ops q → S q)

/-- An alloc that ran, and that the walk has not met yet: its block is no one's. -/
structure Pending (P : Program) (A : Ann) (id : Nat) (ops : Array Oper) (w0 : World) (a : Act) (w : World) (g : G) (p b : Nat) : Prop where
 op : ∃ o e d inf zv, ops[p]? = some o ∧ qew A id o = true ∧ o.op = .alloc e ∧ o.dst = some d ∧ a.tmps.getD d undef = .pointer (some ⟨b, 0, none⟩) ∧
  P.info? e = some inf ∧ inf.zero = some zv ∧ w.heap[b]? = some (.cells zv.cells e (0, 0))
 lo : w0.heap.size ≤ b
 mu : ∀ loc h, loc < g.n → g.mu loc h ≠ some b
 mp : ∀ loc, loc < g.n → g.mp loc ≠ some b
 fz : ∀ o, g.fz b o = none

structure JInv (P : Program) (n : Nat) (call : qbo) (pf : FuncId → Bool) (ty : TypeId → Option TI) (A : Ann) (id : Nat) (ops : Array Oper) (f : Nat → St × Store) (g0 : G) (w0 : World) (S T : Nat → Prop) (a : Act) (w : World) (g : G) : Prop where
 step : Step g0 w0 g w
 sub : ∀ i, T i → S i
 ini : ∀ i, T i → WrAt ty pf A id ops i → ∀ q, q < i → WrAt ty pf A id ops q → T q
 get : ∀ t x, (∀ p, S p → ¬ T p → ¬ qfu ops t p) → Cur T (qfu ops t) (qgx call pf ty A id ops f) ((f 0).1.get t) x → VR g x (a.tmps.getD t undef)
 inv : ∀ τ, Cur T (WrAt ty pf A id ops) (fun i => (f (i + 1)).2) (f 0).2 τ → Inv g τ w
 pend : ∃ blk : Nat → Nat, (∀ p, S p → ¬ T p → Pending P A id ops w0 a w g p (blk p)) ∧ ∀ p q, S p → ¬ T p → S q → ¬ T q → p ≠ q → blk p ≠ blk q
 size : n ≤ a.tmps.size
 defers : a.defers = []

def SOf (listed : Array Bool) (i : Nat) : Prop := listed.getD i false = true

theorem qdo {listed : Array Bool} {j : Nat} (hj : j < listed.size) : SOf (listed.setIfInBounds j true) = fun i => SOf listed i ∨ i = j := by
 funext i
 simp only [SOf, Array.getD_eq_getD_getElem?, Array.getElem?_setIfInBounds, eq_iff_iff]
 by_cases h : j = i
 ·subst h; simp [hj]
 ·simp only [h, if_false]
  constructor
  ·exact .inl
  ·rintro (h' | h')
   ·exact h'
   ·exact absurd h'.symm h

theorem cnt_set {listed : Array Bool} {j : Nat} (hj : j < listed.size) (hf : listed.getD j true = false) : (listed.setIfInBounds j true).toList.count false + 1 = listed.toList.count false := by
 have hg : listed[j]? = some false := by
  rw [Array.getElem?_eq_getElem hj]
  simp [Array.getD, hj] at hf
  rw [hf]
 rw [Array.toList_setIfInBounds]
 have key : ∀ (l : List Bool) (j : Nat), l[j]? = some false → (l.set j true).count false + 1 = l.count false := by
  intro l
  induction l with
  | nil => intro j h; simp at h
  | cons b l ih =>
   intro j h
   cases j with
   | zero => simp at h; subst h; simp
   | succ j =>
    simp at h
    have := ih j h
    simp only [List.set_cons_succ, List.count_cons]
    omega
 exact key _ _ (by simpa using hg)

theorem q1c {ops : Array Oper} {ty : TypeId → Option TI} {pf : FuncId → Bool} {A : Ann} {id : Nat} (D : DrawOk ty pf A id ops) {listed : Array Bool} (hs : listed.size = ops.size) (h : Region.ready .any ops listed = []) : ∀ i, i < ops.size → SOf listed i := by
 intro i
 induction i using Nat.strongRecOn with
 | _ i ih =>
  intro hi
  apply Classical.byContradiction
  intro hn
  have hm : i ∈ Region.ready .any ops listed := by
   rw [mem_ready]
   refine ⟨?_, ops[i], by simp, fun e he hb => ?_⟩
   ·simp only [SOf, Array.getD, hs, hi, dif_pos] at hn ⊢
    simpa using hn
   ·have := D.back i ops[i] (by simp) e he hb
    exact ih e.on this (by omega)
  rw [h] at hm
  cases hm

theorem qfi {A : Ann} {id : Nat} {o : Oper} (h : qew A id o = true) : (∃ e, o.op = .alloc e) ∧ o.guard = none ∧ ∃ d, o.dst = some d := by
 simp only [qew, isA, Bool.and_eq_true] at h
 obtain ⟨_, ⟨h1, h2⟩, h3⟩ := h
 refine ⟨?_, by simpa using h2, Option.isSome_iff_exists.1 h3⟩
 cases ho : o.op <;> rw [ho] at h1 <;> first | exact ⟨_, rfl⟩ | cases h1

theorem q3c {ty : TypeId → Option TI} {pf : FuncId → Bool} {A : Ann} {id : Nat} {ops : Array Oper} {i : Nat} {o : Oper} (ho : ops[i]? = some o) (h : qew A id o = true) : WrAt ty pf A id ops i := by
 obtain ⟨⟨e, he⟩, _⟩ := qfi h
 exact ⟨o, ho, by rw [he]; rfl⟩

/-- What the walk does at a pending alloc. -/
theorem qwa {call : qbo} {pf : FuncId → Bool} {ty : TypeId → Option TI} {A : Ann} {id i : Nat} {ops : Array Oper} {o : Oper} {e : TypeId} {f : Nat → St × Store} (ho : ops[i]? = some o) (hop : o.op = .alloc e) (hg : o.guard = none)
  (h : qcw call pf ty A id true ops i o (f i).1 (f i).2 = some (f (i + 1))) :
  ∃ ti z, ty e = some ti ∧ zeroCells ti = some z ∧ qgx call pf ty A id ops f i = .ptr (f i).2.length 0 0 z.length ∧ (f (i + 1)).2 = (f i).2 ++ [.cells z 0 0] := by
 obtain ⟨_, hor⟩ := qda ho h
 have hw : qfo ops (f i).1.get o = some true := by simp [qfo, hg]
 rcases hor with ⟨_, h2⟩ | ⟨h1, _⟩
 ·rw [hop] at h2
  simp only [opV, qcf, qae] at h2
  cases ht : ty e with
  | none => simp [ht] at h2
  | some ti =>
   rw [ht] at h2
   cases hz : zeroCells ti with
   | none => simp [hz] at h2
   | some z =>
    simp only [hz] at h2
    split at h2
    ·cases h2
    ·simp only [Option.some.injEq, Prod.mk.injEq] at h2
     exact ⟨ti, z, rfl, hz, h2.1.symm, h2.2.symm⟩
 ·rw [hw] at h1; cases h1

theorem alloc_wp {P : Program} {o : Oper} {e : TypeId} (hop : o.op = .alloc e) {inf : TypeInfo} {zv : Value} (hi : P.info? e = some inf) (hz : inf.zero = some zv) {a : Act} {w : World} {next : Act → World → Prop} {Q : Exit → Act → World → Prop}
  (hn : next (a.put o.dst (.pointer (some ⟨w.heap.size, 0, none⟩))) { w with heap := w.heap.push (.cells zv.cells e) }) : o.wp P a w next Q := by
 have hr : (execOp a.eval o).run P w = .ok (.value (.pointer (some ⟨w.heap.size, 0, none⟩))) { w with heap := w.heap.push (.cells zv.cells e) } := by
  unfold execOp
  rw [hop]
  simp only [Instr.alloc, Sem.run_bind, qde hi hz, Result.andThen_ok, newVar, newRow, run_newObj, Sem.run_pure]
 unfold Oper.wp
 rw [hr, Oper.upon_value]
 exact hn

theorem Step.adopt {g0 g : G} {w0 w : World} (h : Step g0 w0 g w) {b c m : Nat} (hb : w0.heap.size ≤ b) : Step g0 w0 (g.pushCells b c m) w where
 le := h.le.trans ((qbk g b c m).le (fun _ _ _ h => h) (by simp [G.pushCells]))
 ext := h.ext
 tips := fun loc x hl hm hx => by
  rcases Nat.lt_or_ge loc g.n with h1 | h1
  ·have S := qbk g b c m
   rw [S.gn loc h1, S.mu loc _ h1, S.mp loc h1] at hm
   exact h.tips loc x h1 hm hx
  ·obtain rfl : loc = g.n := by simp [G.pushCells] at hl; omega
   simp [G.pushCells] at hm
   omega
 own := fun loc h' x hl hm hx => by
  rcases Nat.lt_or_ge loc g.n with h1 | h1
  ·have S := qbk g b c m
   rw [S.mu loc _ h1] at hm
   exact h.own loc h' x h1 hm hx
  ·obtain rfl : loc = g.n := by simp [G.pushCells] at hl; omega
   simp [G.pushCells] at hm
   omega
 cold := h.cold

/-- A pending block stays pending over a step. -/
theorem Pending.mono {P : Program} {A : Ann} {id : Nat} {ops : Array Oper} {w0 : World} {a a' : Act} {w w' : World} {g g' : G} {p b : Nat} (h : Pending P A id ops w0 a w g p b) (S : Step g w g' w')
  (hd : ∀ t, qfu ops t p → a'.tmps.getD t undef = a.tmps.getD t undef) : Pending P A id ops w0 a' w' g' p b := by
 obtain ⟨o, e, d, inf, zv, h1, h2, h3, h4, h5, h6, h7, h8⟩ := h.op
 have hb : b < w.heap.size := lt_of_some h8
 refine ⟨⟨o, e, d, inf, zv, h1, h2, h3, h4, by rw [hd d ⟨o, h1, h4⟩]; exact h5, h6, h7, ?_⟩, h.lo, fun loc x hl hm => ?_, fun loc hl hm => ?_, fun o' => ?_⟩
 ·rw [S.ext.keep b hb (fun loc hl => ⟨h.mu loc _ hl, h.mp loc hl⟩)]; exact h8
 ·obtain ⟨h9, h', h10⟩ := S.own loc x b hl hm hb
  exact h.mu loc h' h9 h10
 ·obtain ⟨h9, h10⟩ := S.tips loc b hl (.inr hm) hb
  rcases h10 with h10 | h10
  ·exact h.mu loc _ h9 h10
  ·exact h.mp loc h9 h10
 ·cases hz : g'.fz b o' with
  | none => rfl
  | some v =>
   have := S.cold b o' v hz hb
   rw [h.fz o'] at this
   cases this

theorem q3t {P : Program} {call : qbo} {pf : FuncId → Bool} (hp : qfv call pf) {ty : TypeId → Option TI} (hty : ∀ t x, ty t = some x → tiOf P t = some x) {n : Nat} {A : Ann} {id : Nat} {ops : Array Oper} (D : DrawOk ty pf A id ops) {f : Nat → St × Store}
  (htr : ∀ i o, ops[i]? = some o → qcw call pf ty A id true ops i o (f i).1 (f i).2 = some (f (i + 1)))
  (sseq : ∀ i, i < ops.size → (WrAt ty pf A id ops i → (f (i + 1)).2 = (f (i + 1)).2) ∧ (¬ WrAt ty pf A id ops i → (f (i + 1)).2 = (f i).2))
  {g0 : G} {w0 : World} {S T : Nat → Prop} (hlt : ∀ i, S i → i < ops.size) {a : Act} {w : World} {g : G} (J : JInv P n call pf ty A id ops f g0 w0 S T a w g) {p : Nat} (hS : S p) (hT : ¬ T p) (hq : ∀ q, q < p → WrAt ty pf A id ops q → T q) :
  ∃ g', JInv P n call pf ty A id ops f g0 w0 S (fun i => T i ∨ i = p) a w g' := by
 obtain ⟨blk, hblk, hdiff⟩ := J.pend
 have K := hblk p hS hT
 obtain ⟨o, e, d, inf, zv, ho, hpa, hop, hd, htmp, hinf, hzv, hheap⟩ := K.op
 obtain ⟨_, hguard, _⟩ := qfi hpa
 have hWp : WrAt ty pf A id ops p := q3c ho hpa
 obtain ⟨ti, z, hti, hz, hval, hstore⟩ := qwa ho hop hguard (htr p o ho)
 obtain ⟨_, huniq⟩ := D.pnd p o ho hpa
 haveI : ∀ t, DecidablePred (qfu ops t) := fun _ _ => Classical.propDecidable _
 haveI : DecidablePred (WrAt ty pf A id ops) := fun _ => Classical.propDecidable _
 haveI : DecidablePred T := fun _ => Classical.propDecidable _
 have hTlt : ∀ i, T i → i < ops.size := fun i hi => hlt i (J.sub i hi)
 obtain ⟨τ, hτ⟩ := Cur.exists T (WrAt ty pf A id ops) (fun i => (f (i + 1)).2) (f 0).2 ops.size hTlt
 have hTW : ∀ i, WrAt ty pf A id ops i → (T i ↔ i < p) := fun i hW => by
  constructor
  ·intro hTi
   rcases Nat.lt_trichotomy i p with h | h | h
   ·exact h
   ·subst h; exact absurd hTi hT
   ·exact absurd (J.ini i hTi hW p h hWp) hT
  ·intro hi; exact hq i hi hW
 have hτe : τ = (f p).2 := hτ.at (seq := fun i => (f i).2) p rfl (fun i hi => sseq i (by have := lt_of_some ho; omega)) hTW
 have I := J.inv τ hτ
 rw [hτe] at I
 obtain ⟨inf', zv', hi', hzv', z1, z2⟩ := qaz (hty _ _ hti) g hz
 rw [hinf] at hi'; cases hi'
 rw [hzv] at hzv'; cases hzv'
 have hl := VRs.length z1
 simp only [Array.length_toList] at hl
 have I' := I.adopt z zv.cells e (blk p) hheap K.mu K.fz (by omega) (fun i c hc => by
  obtain ⟨v, r1, r2⟩ := VRs.get z1 i c hc
  exact ⟨v, by simpa using r1, List.all_eq_true.1 z2 v (List.mem_of_getElem? r1), r2⟩)
 have hle : g.Le (g.pushCells (blk p) z.length zv.cells.size) := (qbk g _ _ _).le (fun _ _ _ h => h) (by simp [G.pushCells])
 have hdst : ∀ t k, qfu ops t k → o.dst = some t → k = p := fun t k ⟨o', ho', hd'⟩ hot => by
  apply Classical.byContradiction
  intro hk
  exact huniq k o' ho' hk (by rw [hd', hot])
 refine ⟨g.pushCells (blk p) z.length zv.cells.size, J.step.adopt K.lo, fun i hi => ?_, fun i hi hW q hqi hWq => ?_, fun t x hno hx => ?_, fun τ' hτ' => ?_, ⟨blk, fun q hSq hTq => ?_, fun q r h1 h2 h3 h4 h5 => hdiff q r h1 (fun h => h2 (.inl h)) h3 (fun h => h4 (.inl h)) h5⟩, J.size, J.defers⟩
 ·rcases hi with hi | rfl
  ·exact J.sub i hi
  ·exact hS
 ·rcases hi with hi | rfl
  ·exact .inl (J.ini i hi hW q hqi hWq)
  ·exact .inl (hq q hqi hWq)
 ·by_cases hw : o.dst = some t
  ·have hc := Cur.write (S := T) (W := qfu ops t) (val := qgx call pf ty A id ops f) (x0 := (f 0).1.get t) (j := p) ⟨o, ho, hw⟩ (fun k hk hwk => by
    have := hdst t k hwk hw
    subst this
    exact absurd hk hT)
   rw [hx.unique hc, hval]
   have e1 : d = t := by rw [hd] at hw; simpa using hw
   subst e1
   rw [htmp, ← I.len]
   exact qjq
  ·obtain ⟨y, hy⟩ := Cur.exists T (qfu ops t) (qgx call pf ty A id ops f) ((f 0).1.get t) ops.size hTlt
   have hc := hy.keep (j := p) (fun ⟨p', hp', hd'⟩ => by rw [ho] at hp'; cases hp'; exact hw hd')
   rw [hx.unique hc]
   refine VR.mono hle _ _ (J.get t y (fun q hSq hTq hdq => ?_) hy)
   by_cases hqp : q = p
   ·subst hqp
    obtain ⟨o', ho', hd'⟩ := hdq
    rw [ho] at ho'; cases ho'
    exact hw hd'
   ·exact hno q hSq (fun h => h.elim hTq hqp) hdq
 ·have hc := Cur.write (S := T) (W := WrAt ty pf A id ops) (val := fun i => (f (i + 1)).2) (x0 := (f 0).2) (j := p) hWp (fun k hk hwk => (hTW k hwk).1 hk)
  rw [hτ'.unique hc, hstore]
  exact I'
 ·have hTq' : ¬ T q := fun h => hTq (.inl h)
  have hqp : q ≠ p := fun h => hTq (.inr h)
  have Kq := hblk q hSq hTq'
  refine ⟨Kq.op, Kq.lo, fun loc h hl hm => ?_, fun loc hl hm => ?_, Kq.fz⟩
  ·rcases Nat.lt_or_ge loc g.n with h1 | h1
   ·rw [(qbk g _ _ _).mu loc h h1] at hm
    exact Kq.mu loc h h1 hm
   ·obtain rfl : loc = g.n := by simp [G.pushCells] at hl; omega
    simp only [G.pushCells, if_true] at hm
    split at hm
    ·exact hdiff p q hS hT hSq hTq' (Ne.symm hqp) (Option.some.inj hm)
    ·cases hm
  ·rcases Nat.lt_or_ge loc g.n with h1 | h1
   ·rw [(qbk g _ _ _).mp loc h1] at hm
    exact Kq.mp loc h1 hm
   ·obtain rfl : loc = g.n := by simp [G.pushCells] at hl; omega
    simp [G.pushCells] at hm

theorem qzt {P : Program} {call : qbo} {pf : FuncId → Bool} (hp : qfv call pf) {ty : TypeId → Option TI} (hty : ∀ t x, ty t = some x → tiOf P t = some x) {n : Nat} {A : Ann} {id : Nat} {ops : Array Oper} (D : DrawOk ty pf A id ops) {f : Nat → St × Store}
  (htr : ∀ i o, ops[i]? = some o → qcw call pf ty A id true ops i o (f i).1 (f i).2 = some (f (i + 1)))
  (sseq : ∀ i, i < ops.size → (WrAt ty pf A id ops i → (f (i + 1)).2 = (f (i + 1)).2) ∧ (¬ WrAt ty pf A id ops i → (f (i + 1)).2 = (f i).2))
  {g0 : G} {w0 : World} {S T : Nat → Prop} (hlt : ∀ i, S i → i < ops.size) {a : Act} {w : World} {g : G} (J : JInv P n call pf ty A id ops f g0 w0 S T a w g)
  (hTT : ∀ i, T i → TOf ty pf A id ops S i) (hini : ∀ i, TOf ty pf A id ops S i → WrAt ty pf A id ops i → ∀ q, q < i → WrAt ty pf A id ops q → TOf ty pf A id ops S q) :
  ∃ g', JInv P n call pf ty A id ops f g0 w0 S (TOf ty pf A id ops S) a w g' := by
 have key : ∀ m, m ≤ ops.size → ∃ g', JInv P n call pf ty A id ops f g0 w0 S (fun i => T i ∨ (i < m ∧ TOf ty pf A id ops S i)) a w g' := by
  intro m
  induction m with
  | zero =>
   intro _
   have e : (fun i => T i ∨ (i < 0 ∧ TOf ty pf A id ops S i)) = T := by
    funext i
    simp
   rw [e]
   exact ⟨g, J⟩
  | succ m ih =>
   intro hm
   obtain ⟨g1, J1⟩ := ih (by omega)
   by_cases h : TOf ty pf A id ops S m ∧ ¬ T m
   ·obtain ⟨h1, h2⟩ := h
    have hWm : WrAt ty pf A id ops m := by
     obtain ⟨blk, hblk, _⟩ := J1.pend
     obtain ⟨o, e, d, inf, zv, ho, hpa, _⟩ := (hblk m h1.1 (fun h => by rcases h with h | h; exact h2 h; omega)).op
     exact q3c ho hpa
    obtain ⟨g2, J2⟩ := q3t hp hty D htr sseq hlt J1 (p := m) h1.1 (fun h => by rcases h with h | h; exact h2 h; omega) (fun q hq hW => .inr ⟨hq, hini m h1 hWm q hq hW⟩)
    have e : (fun i => (T i ∨ (i < m ∧ TOf ty pf A id ops S i)) ∨ i = m) = (fun i => T i ∨ (i < m + 1 ∧ TOf ty pf A id ops S i)) := by
     funext i
     simp only [eq_iff_iff]
     constructor
     ·rintro ((h | h) | rfl)
      ·exact .inl h
      ·exact .inr ⟨by omega, h.2⟩
      ·exact .inr ⟨by omega, h1⟩
     ·rintro (h | h)
      ·exact .inl (.inl h)
      ·by_cases e : i = m
       ·exact .inr e
       ·exact .inl (.inr ⟨by omega, h.2⟩)
    rw [e] at J2
    exact ⟨g2, J2⟩
   ·have e : (fun i => T i ∨ (i < m ∧ TOf ty pf A id ops S i)) = (fun i => T i ∨ (i < m + 1 ∧ TOf ty pf A id ops S i)) := by
     funext i
     simp only [eq_iff_iff]
     constructor
     ·rintro (h' | h')
      ·exact .inl h'
      ·exact .inr ⟨by omega, h'.2⟩
     ·rintro (h' | h')
      ·exact .inl h'
      ·by_cases e : i = m
       ·subst e
        exact .inl (Classical.byContradiction fun hn => h ⟨h'.2, hn⟩)
       ·exact .inr ⟨by omega, h'.2⟩
    rw [e] at J1
    exact ⟨g1, J1⟩
 obtain ⟨g', J'⟩ := key ops.size (Nat.le_refl _)
 have e : (fun i => T i ∨ (i < ops.size ∧ TOf ty pf A id ops S i)) = TOf ty pf A id ops S := by
  funext i
  simp only [eq_iff_iff]
  constructor
  ·rintro (h | h)
   ·exact hTT i h
   ·exact h.2
  ·intro h
   exact .inr ⟨hlt i h.1, h⟩
 rw [e] at J'
 exact ⟨g', J'⟩

theorem qza {P : Program} {call : qbo} (hcall : qiv P call) {pf : FuncId → Bool} (hp : qfv call pf) {ty : TypeId → Option TI} (hty : ∀ t x, ty t = some x → tiOf P t = some x) {n : Nat} {A : Ann} {id : Nat} {ops : Array Oper} (hok : qxw n ops = true) (D : DrawOk ty pf A id ops) {Q : Exit → Act → World → Prop}
  {f : Nat → St × Store} (hdyn : A.dyn.contains id = true → ∀ j o ti x v, ops[j]? = some o → qdp ty ops o (f j).1 = some (ti, x) → qbx (f j).2 ti x = some v → ∀ k, k ≤ ops.size → (∀ p q, p < k → ops[p]? = some q → cls ty pf (A.owned.contains (id, p)) q.op = 2 → memN j (stops (Region.before ops) p) = false) → (∀ p q, ops[p]? = some q → cls ty pf (A.owned.contains (id, p)) q.op = 2 → memN p (stops (Region.before ops) j) = true → p < k) → okAt (f k).2 ti x v = true)
  (htr : ∀ i o, ops[i]? = some o → qcw call pf ty A id true ops i o (f i).1 (f i).2 = some (f (i + 1))) (hscr : ∀ t v, (f 0).1.scr.find t = some v → A.vars.contains t = false) {g0 : G} {w0 : World}
  (hq : ∀ g a w, Inv g (f ops.size).2 w → (∀ t, VR g ((f ops.size).1.get t) (a.tmps.getD t undef)) → n ≤ a.tmps.size → a.defers = [] → Step g0 w0 g w → Q .normal a w) :
  ∀ (fuel : Nat) (listed : Array Bool) (a : Act) (w : World) (g : G), listed.size = ops.size → (∀ j o, SOf listed j → ops[j]? = some o → ∀ e ∈ o.after, Region.binds .any e = true → SOf listed e.on) → listed.toList.count false ≤ fuel →
    JInv P n call pf ty A id ops f g0 w0 (SOf listed) (TOf ty pf A id ops (SOf listed)) a w g → wpAny P .any ops Q fuel listed a w := by
 have hlt : ∀ (listed : Array Bool), listed.size = ops.size → ∀ j, SOf listed j → j < ops.size := by
  intro listed hs j hj
  rcases Nat.lt_or_ge j listed.size with h | h
  ·omega
  ·simp [SOf, Array.getD, Nat.not_lt.2 h] at hj
 have hopt : ∀ i, i < ops.size → ∃ o, ops[i]? = some o := fun i hi => ⟨ops[i], by simp⟩
 have hsc : ∀ i, i ≤ ops.size → ∀ t v, (f i).1.scr.find t = some v → A.vars.contains t = false := by
  intro i
  induction i with
  | zero => intro _; exact hscr
  | succ i ih =>
   intro hi
   obtain ⟨o, ho⟩ := hopt i (by omega)
   rw [(qda ho (htr i o ho)).1]
   cases o.dst with
   | none => exact ih (by omega)
   | some t => exact quk A _ t _ (ih (by omega))
 have tseq : ∀ t i, i < ops.size → (qfu ops t i → (f (i + 1)).1.get t = qgx call pf ty A id ops f i) ∧ (¬ qfu ops t i → (f (i + 1)).1.get t = (f i).1.get t) := by
  intro t i hi
  obtain ⟨o, ho⟩ := hopt i hi
  have h1 := (qda ho (htr i o ho)).1
  constructor
  ·rintro ⟨o', ho', hd⟩
   rw [ho] at ho'; cases ho'
   rw [h1, hd, St.putO, St.get_put A _ _ _ _ (hsc i (by omega)), if_pos rfl]
  ·intro hn
   rw [h1]
   cases hd : o.dst with
   | none => rfl
   | some t' =>
    rw [St.putO, St.get_put A _ _ _ _ (hsc i (by omega)), if_neg]
    rintro rfl
    exact hn ⟨o, ho, hd⟩
 have hρf : ∀ i g, (f i).1.eval (.func g) = .fn g [] := fun _ _ => rfl
 have sseq : ∀ i, i < ops.size → (WrAt ty pf A id ops i → (f (i + 1)).2 = (f (i + 1)).2) ∧ (¬ WrAt ty pf A id ops i → (f (i + 1)).2 = (f i).2) := by
  intro i hi
  obtain ⟨o, ho⟩ := hopt i hi
  refine ⟨fun _ => rfl, fun hn => ?_⟩
  rcases (qda ho (htr i o ho)).2 with ⟨_, h2⟩ | ⟨_, _, h2⟩
  ·exact qly hp (hρf i) (fun hc => hn ⟨o, ho, hc⟩) h2
  ·exact h2
 have hTlt : ∀ (listed : Array Bool), listed.size = ops.size → ∀ j, TOf ty pf A id ops (SOf listed) j → j < ops.size := fun listed hs j hj => hlt listed hs j hj.1
 have fin : ∀ (listed : Array Bool) (a : Act) (w : World) (g : G), listed.size = ops.size → (∀ i, i < ops.size → SOf listed i) → JInv P n call pf ty A id ops f g0 w0 (SOf listed) (TOf ty pf A id ops (SOf listed)) a w g → Q .normal a w := by
  intro listed a w g hs hall J
  haveI : ∀ t, DecidablePred (qfu ops t) := fun _ _ => Classical.propDecidable _
  haveI : DecidablePred (WrAt ty pf A id ops) := fun _ => Classical.propDecidable _
  haveI : DecidablePred (TOf ty pf A id ops (SOf listed)) := fun _ => Classical.propDecidable _
  have hallT : ∀ i, i < ops.size → TOf ty pf A id ops (SOf listed) i := fun i hi => ⟨hall i hi, fun _ q hq _ => hall q (by omega)⟩
  refine hq g a w ?_ (fun t => ?_) J.size J.defers J.step
  ·obtain ⟨τ, hτ⟩ := Cur.exists (TOf ty pf A id ops (SOf listed)) (WrAt ty pf A id ops) (fun i => (f (i + 1)).2) (f 0).2 ops.size (hTlt listed hs)
   have := hτ.at (seq := fun i => (f i).2) ops.size rfl (fun i hi => sseq i hi) (fun i _ => ⟨fun h => hTlt listed hs i h, fun h => hallT i h⟩)
   rw [← this]
   exact J.inv τ hτ
  ·obtain ⟨x, hx⟩ := Cur.exists (TOf ty pf A id ops (SOf listed)) (qfu ops t) (qgx call pf ty A id ops f) ((f 0).1.get t) ops.size (hTlt listed hs)
   have := hx.at (seq := fun i => (f i).1.get t) ops.size rfl (fun i hi => tseq t i hi) (fun i _ => ⟨fun h => hTlt listed hs i h, fun h => hallT i h⟩)
   rw [← this]
   exact J.get t x (fun p hS hT => absurd (hallT p (hlt listed hs p hS)) hT) hx
 intro fuel
 induction fuel with
 | zero =>
  intro listed a w g hs hcl hcnt J
  have hall : ∀ i, i < ops.size → SOf listed i := by
   intro i hi
   simp only [Nat.le_zero, List.count_eq_zero] at hcnt
   have hi2 : i < listed.size := by omega
   simp only [SOf, Array.getD, hi2, dif_pos]
   cases hb : listed[i]'(by omega) with
   | true => exact hb
   | false =>
    exfalso
    apply hcnt
    rw [← hb]
    exact Array.mem_toList_iff.2 (Array.getElem_mem hi2)
  refine ⟨?_, fin listed a w g hs hall J⟩
  rw [List.eq_nil_iff_forall_not_mem]
  intro i hi
  rw [mem_ready] at hi
  obtain ⟨h1, o, h2, _⟩ := hi
  have hi' : i < ops.size := lt_of_some h2
  have hi2 : i < listed.size := by omega
  have h3 := hall i hi'
  simp only [SOf, Array.getD, hi2, dif_pos] at h3 h1
  rw [h3] at h1; cases h1
 | succ fuel ih =>
  intro listed a w g hs hcl hcnt J
  refine ⟨fun hr => fin listed a w g hs (q1c D hs hr) J, fun j hj => ?_⟩
  rw [mem_ready] at hj
  obtain ⟨hun, o, ho, hdeps⟩ := hj
  have hjlt : j < ops.size := lt_of_some ho
  have hjl : j < listed.size := by omega
  have hSj : ¬ SOf listed j := by
   intro h
   simp only [SOf, Array.getD, hjl, dif_pos] at h hun
   rw [h] at hun; cases hun
  have hcb := qfg (ops := ops) (S := SOf listed) hcl (hlt listed hs)
  -- with 'j' the listed ones are closed too
  have hcl' : ∀ k p, SOf (listed.setIfInBounds j true) k → ops[k]? = some p → ∀ e ∈ p.after, Region.binds .any e = true → SOf (listed.setIfInBounds j true) e.on := by
   rw [qdo hjl]
   intro k p hk hp e he hb
   rcases hk with hk | rfl
   ·exact .inl (hcl k p hk hp e he hb)
   ·rw [ho] at hp; cases hp
    exact .inl (hdeps e he hb)
  have hcb' : ∀ i, ((Region.before ops).getD j 0).testBit i = true → SOf listed i ∨ i = j := by
   intro i hb
   have := qfg (ops := ops) (S := SOf (listed.setIfInBounds j true)) hcl' (hlt _ (by simpa using hs)) j i (by rw [qdo hjl]; exact .inr rfl) hb
   rwa [qdo hjl] at this
  -- the order among the writers of what 'j' names
  have order : ∀ i, i ≠ j → ((Region.before ops).getD (max i j) 0).testBit (min i j) = true → (SOf listed i ↔ i < j) := by
   intro i hij hb
   constructor
   ·intro hS
    rcases Nat.lt_or_ge i j with h | h
    ·exact h
    ·rw [Nat.max_eq_left h, Nat.min_eq_right h] at hb
     exact absurd (hcb i j hS hb) hSj
   ·intro h
    rw [Nat.max_eq_right (Nat.le_of_lt h), Nat.min_eq_left (Nat.le_of_lt h)] at hb
    exact (hcb' i hb).resolve_right hij
  haveI : ∀ t, DecidablePred (qfu ops t) := fun _ _ => Classical.propDecidable _
  haveI : DecidablePred (WrAt ty pf A id ops) := fun _ => Classical.propDecidable _
  haveI : DecidablePred (TOf ty pf A id ops (SOf listed)) := fun _ => Classical.propDecidable _
  have hjS : ∀ (S : Nat → Prop), (fun i => S i ∨ i = j) j := fun S => .inr rfl
  -- what stands before 'j' is done
  have doneT : ∀ i, i < j → ((Region.before ops).getD j 0).testBit i = true → TOf ty pf A id ops (SOf listed) i := by
   intro i hij hb
   have hSi := (hcb' i hb).resolve_right (by omega)
   refine ⟨hSi, fun ⟨p, hpi, hpa⟩ q hq hW => ?_⟩
   obtain ⟨q', hq', hcq⟩ := hW
   rcases (D.pnd i p hpi hpa).1 q q' hq' hq hcq with h | h
   ·exact hcb i q hSi h
   ·exact (hcb' q (h j hjlt hb)).resolve_right (by omega)
  have orderT : ∀ i, i ≠ j → ((Region.before ops).getD (max i j) 0).testBit (min i j) = true → (TOf ty pf A id ops (SOf listed) i ↔ i < j) := by
   intro i hij hb
   constructor
   ·intro h; exact (order i hij hb).1 h.1
   ·intro h
    refine doneT i h ?_
    rwa [Nat.max_eq_right (Nat.le_of_lt h), Nat.min_eq_left (Nat.le_of_lt h)] at hb
  have iniT : ∀ (S : Nat → Prop), (∀ k i, S k → ((Region.before ops).getD k 0).testBit i = true → S i) → (∀ k, S k → k < ops.size) → ∀ i, TOf ty pf A id ops S i → WrAt ty pf A id ops i → ∀ q, q < i → WrAt ty pf A id ops q → TOf ty pf A id ops S q := by
   intro S hc hlS i hT hW q hqi hWq
   obtain ⟨oi, hoi, hci⟩ := hW
   obtain ⟨oq, hoq, hcq⟩ := hWq
   have := D.eff q i oq oi hoq hoi (by omega) hcq (by omega) (by rw [qpt hci, Bool.and_false])
   rcases this with h | ⟨_, h⟩ | ⟨h, _⟩
   ·rw [Nat.max_eq_right (by omega), Nat.min_eq_left (by omega)] at h
    refine ⟨hc i q hT.1 h, fun ⟨p, hpq, hpa⟩ r hr hWr => ?_⟩
    obtain ⟨or', hor, hcr⟩ := hWr
    rcases (D.pnd q p hpq hpa).1 r or' hor hr hcr with h' | h'
    ·exact hc q r (hc i q hT.1 h) h'
    ·exact hc i r hT.1 (h' i (hlS i hT.1) h)
   ·have hall := hT.2 ⟨oi, hoi, h⟩
    exact ⟨hall q hqi ⟨oq, hoq, hcq⟩, fun _ r hr hWr => hall r (by omega) hWr⟩
   ·omega
  have noPend : ∀ t, (o.dst = some t ∨ .tmp t ∈ o.op.operands.toList ∨ ∃ k b, o.guard = some (k, b) ∧ (ops[k]?).bind (·.dst) = some t) → ∀ p, SOf listed p → ¬ TOf ty pf A id ops (SOf listed) p → ¬ qfu ops t p := by
   intro t ht p hS hT ⟨op, hop, hd⟩
   have hpj : p ≠ j := by rintro rfl; exact hSj hS
   have hb := D.tmp p j op o t hop ho hpj hd ht
   exact hT ((orderT p hpj hb).2 ((order p hpj hb).1 hS))
  -- what stands in a temporary that 'j' names is what stood there in the walk
  have named : ∀ t, (o.dst = some t ∨ .tmp t ∈ o.op.operands.toList ∨ ∃ k b, o.guard = some (k, b) ∧ (ops[k]?).bind (·.dst) = some t) → VR g ((f j).1.get t) (a.tmps.getD t undef) := by
   intro t ht
   obtain ⟨x, hx⟩ := Cur.exists (TOf ty pf A id ops (SOf listed)) (qfu ops t) (qgx call pf ty A id ops f) ((f 0).1.get t) ops.size (hTlt listed hs)
   have := hx.at (seq := fun i => (f i).1.get t) j rfl (fun i hi => tseq t i (by omega)) (fun i hi => by
    obtain ⟨p, hp, hd⟩ := hi
    by_cases hij : i = j
    ·subst hij; exact ⟨fun h => absurd h.1 hSj, fun h => absurd h (Nat.lt_irrefl _)⟩
    ·exact orderT i hij (D.tmp i j p o t hp ho hij hd ht))
   rw [← this]
   exact J.get t x (noPend t ht) hx
  obtain ⟨τ, hτ⟩ := Cur.exists (TOf ty pf A id ops (SOf listed)) (WrAt ty pf A id ops) (fun i => (f (i + 1)).2) (f 0).2 ops.size (hTlt listed hs)
  have hI := J.inv τ hτ
  -- behind 'j': what is pending is met, if it may be
  have step' : ∀ (a' : Act) (w' : World) (g' : G) (T : Nat → Prop), (∀ i, T i → TOf ty pf A id ops (SOf (listed.setIfInBounds j true)) i) → JInv P n call pf ty A id ops f g0 w0 (SOf (listed.setIfInBounds j true)) T a' w' g' →
    wpAny P .any ops Q fuel (listed.setIfInBounds j true) a' w' := by
   intro a' w' g' T hTT J'
   obtain ⟨g2, J2⟩ := qzt hp hty D htr sseq (hlt _ (by simpa using hs)) J' hTT (iniT _ (qfg hcl' (hlt _ (by simpa using hs))) (hlt _ (by simpa using hs)))
   exact ih _ _ _ g2 (by simpa using hs) hcl' (by have := cnt_set hjl hun; omega) J2
  by_cases hpd : qew A id o = true ∧ ∃ q, q < j ∧ WrAt ty pf A id ops q ∧ ¬ SOf listed q
  ·-- an alloc that stays pending
   obtain ⟨hpa, q, hqj, hWq, hnq⟩ := hpd
   obtain ⟨⟨e, hop⟩, hguard, d, hd⟩ := qfi hpa
   obtain ⟨ti, z, hti, hz, hval, hstore⟩ := qwa ho hop hguard (htr j o ho)
   obtain ⟨inf, zv, hinf, hzv, _, _⟩ := qaz (hty _ _ hti) g hz
   unfold wpOp
   rw [ho]
   simp only
   rw [if_pos (by simp [Region.wanted, hguard])]
   left
   refine alloc_wp hop hinf hzv ?_
   have hsame : g.Same g := ⟨fun _ _ => rfl, fun _ _ _ => rfl, fun _ _ _ => rfl, fun _ _ _ => rfl, fun _ _ => rfl⟩
   have hst : Step g w g { w with heap := w.heap.push (.cells zv.cells e) } := Step.of_grow hI hsame (fun _ _ _ h => h) (Nat.le_refl _) (by simp) (fun b hb => qav _ _ _ hb) rfl rfl rfl (fun _ _ _ h => .inl h) (fun loc h b h1 h2 => by omega)
   have hdlt : d < a.tmps.size := Nat.lt_of_lt_of_le (qjd hok ho d hd) J.size
   have hput : ∀ t, d ≠ t → (a.put o.dst (.pointer (some ⟨w.heap.size, 0, none⟩))).tmps.getD t undef = a.tmps.getD t undef := by
    intro t ht
    rw [hd]
    simp only [Act.put, Array.getD_eq_getD_getElem?, Array.getElem?_setIfInBounds, ht, if_false]
   obtain ⟨blk, hblk, hdiff⟩ := J.pend
   have hold : ∀ p, SOf (listed.setIfInBounds j true) p → p ≠ j → SOf listed p := by
    rw [qdo hjl]
    intro p h1 h2
    exact h1.resolve_right h2
   have hTj : ¬ TOf ty pf A id ops (SOf listed) j := fun h => hSj h.1
   have hblt : ∀ p, SOf listed p → ¬ TOf ty pf A id ops (SOf listed) p → blk p < w.heap.size := by
    intro p h1 h2
    obtain ⟨_, _, _, _, _, _, _, _, _, _, _, _, h8⟩ := (hblk p h1 h2).op
    exact lt_of_some h8
   refine step' _ _ g (TOf ty pf A id ops (SOf listed)) ?_ ⟨J.step.trans hst, ?_, J.ini, ?_, ?_, ⟨fun p => if p = j then w.heap.size else blk p, ?_, ?_⟩, ?_, ?_⟩
   ·rw [qdo hjl]
    intro i hi
    exact ⟨.inl hi.1, fun hp' q' hq' hW' => .inl (hi.2 hp' q' hq' hW')⟩
   ·rw [qdo hjl]
    intro i hi
    exact .inl hi.1
   ·intro t x hno hx
    have hdt : d ≠ t := by
     rintro rfl
     exact hno j (by rw [qdo hjl]; exact .inr rfl) hTj ⟨o, ho, hd⟩
    rw [hput t hdt]
    exact J.get t x (fun p h1 h2 => hno p (by rw [qdo hjl]; exact .inl h1) h2) hx
   ·intro τ' hτ'
    exact (J.inv τ' hτ').more hsame (fun _ _ _ h => h) rfl (fun b hb => qav _ _ _ hb) (fun _ _ _ h => .inl h)
   ·intro p h1 h2
    by_cases hpj : p = j
    ·subst hpj
     simp only [if_true]
     refine ⟨⟨o, e, d, inf, zv, ho, hpa, hop, hd, ?_, hinf, hzv, qbe _ _⟩, J.step.ext.size, fun loc h hl hm => ?_, fun loc hl hm => ?_, fun o' => ?_⟩
     ·rw [hd]
      simp [Act.put, Array.getD, hdlt]
     ·have := hI.muLt hl hm; omega
     ·have := hI.mpLt hl hm; omega
     ·cases hz' : g.fz w.heap.size o' with
      | none => rfl
      | some v => have := qcu (hI.fz _ _ _ hz'); omega
    ·simp only [hpj, if_false]
     refine (hblk p (hold p h1 hpj) h2).mono hst fun t ht => hput t ?_
     rintro rfl
     obtain ⟨op, hop', hd'⟩ := ht
     exact (D.pnd j o ho hpa).2 p op hop' hpj (by rw [hd', hd])
   ·intro p q' h1 h2 h3 h4 h5
    by_cases hpj : p = j
    ·subst hpj
     have := hblt q' (hold q' h3 (Ne.symm h5)) h4
     simp only [if_true, Ne.symm h5, if_false]
     omega
    ·by_cases hqj' : q' = j
     ·subst hqj'
      have := hblt p (hold p h1 hpj) h2
      simp only [if_true, hpj, if_false]
      omega
     ·simp only [hpj, hqj', if_false]
      exact hdiff p q' (hold p h1 hpj) h2 (hold q' h3 hqj') h4 h5
   ·have := J.size
    rw [hd]
    simpa [Act.put] using this
   ·rw [hd]; exact J.defers
  have hdone : qew A id o = true → ∀ q, q < j → WrAt ty pf A id ops q → SOf listed q := by
   intro hpa q hq hW
   apply Classical.byContradiction
   intro hn
   exact hpd ⟨hpa, q, hq, hW, hn⟩
  -- the order among the writers
  have orderW : cls ty pf (A.owned.contains (id, j)) o.op ≠ 0 → qgz o.op = false → ∀ i, WrAt ty pf A id ops i → (TOf ty pf A id ops (SOf listed) i ↔ i < j) := by
   intro hne hnl i hi
   obtain ⟨p, hp, hd⟩ := hi
   by_cases hij : i = j
   ·subst hij; exact ⟨fun h => absurd h.1 hSj, fun h => absurd h (Nat.lt_irrefl _)⟩
   ·rcases D.eff i j p o hp ho hij hd hne (by rw [hnl, Bool.and_false]) with h | ⟨h1, h2⟩ | ⟨h1, h2, h3⟩
    ·exact orderT i hij h
    ·exact ⟨fun _ => h1, fun _ => ⟨hdone h2 i h1 ⟨p, hp, hd⟩, fun _ q hq hW => hdone h2 q (by omega) hW⟩⟩
    ·exact ⟨fun h => absurd (h.2 ⟨p, hp, h2⟩ j h1 ⟨o, ho, h3⟩) hSj, fun h => by omega⟩
  have hτeq : cls ty pf (A.owned.contains (id, j)) o.op ≠ 0 → qgz o.op = false → τ = (f j).2 := by
   intro hne hnl
   exact hτ.at (seq := fun i => (f i).2) j rfl (fun i hi => sseq i (by omega)) (orderW hne hnl)
  -- the next state
  have next : ∀ (g' : G) (cv : Value) (w' : World) (τ' : Store), Step g w g' w' → VR g' (qgx call pf ty A id ops f j) cv → Inv g' τ' w' →
    (cls ty pf (A.owned.contains (id, j)) o.op = 2 → τ' = (f (j + 1)).2) → (cls ty pf (A.owned.contains (id, j)) o.op ≠ 2 → τ' = τ) →
    wpAny P .any ops Q fuel (listed.setIfInBounds j true) (a.put o.dst cv) w' := by
   intro g' cv w' τ' hst hv hI' h2 hn2
   obtain ⟨blk, hblk, hdiff⟩ := J.pend
   have hold : ∀ p, SOf (listed.setIfInBounds j true) p → ¬ (TOf ty pf A id ops (SOf listed) p ∨ p = j) → SOf listed p ∧ ¬ TOf ty pf A id ops (SOf listed) p := by
    rw [qdo hjl]
    intro p h1 h2
    exact ⟨h1.resolve_right (fun h => h2 (.inr h)), fun h => h2 (.inl h)⟩
   have hput : ∀ t, o.dst ≠ some t → (a.put o.dst cv).tmps.getD t undef = a.tmps.getD t undef := by
    intro t hw
    cases hd : o.dst with
    | none => rfl
    | some d =>
     have : d ≠ t := fun e => hw (by rw [hd, e])
     simp only [Act.put, Array.getD_eq_getD_getElem?, Array.getElem?_setIfInBounds, this, if_false]
   have hdstP : ∀ p, SOf listed p → ¬ TOf ty pf A id ops (SOf listed) p → ∀ t, qfu ops t p → o.dst ≠ some t := by
    intro p h1 h2 t ht hw
    exact noPend t (.inl hw) p h1 h2 ht
   refine step' _ _ g' (fun i => TOf ty pf A id ops (SOf listed) i ∨ i = j) ?_ ⟨J.step.trans hst, ?_, ?_, ?_, ?_, ⟨blk, ?_, ?_⟩, ?_, ?_⟩
   ·rw [qdo hjl]
    intro i hi
    rcases hi with hi | rfl
    ·exact ⟨.inl hi.1, fun hp' q' hq' hW' => .inl (hi.2 hp' q' hq' hW')⟩
    ·exact ⟨.inr rfl, fun ⟨p, hp', hpa⟩ q' hq' hW' => by rw [ho] at hp'; cases hp'; exact .inl (hdone hpa q' hq' hW')⟩
   ·rw [qdo hjl]
    intro i hi
    exact hi.imp (fun h => h.1) (fun h => h)
   ·intro i hi hW q hqi hWq
    rcases hi with hi | rfl
    ·exact .inl (J.ini i hi hW q hqi hWq)
    ·obtain ⟨oi, hoi, hci⟩ := hW
     rw [ho] at hoi; cases hoi
     exact .inl ((orderW (by omega) (qpt hci) q hWq).2 hqi)
   ·intro t x hno hx
    by_cases hw : o.dst = some t
    ·have hc := Cur.write (S := TOf ty pf A id ops (SOf listed)) (W := qfu ops t) (val := qgx call pf ty A id ops f) (x0 := (f 0).1.get t) (j := j) ⟨o, ho, hw⟩ (fun k hk hwk => by
      obtain ⟨p, hp, hd⟩ := hwk
      have hkj : k ≠ j := by rintro rfl; exact hSj hk.1
      exact (orderT k hkj (D.tmp k j p o t hp ho hkj hd (.inl hw))).1 hk)
     rw [hx.unique hc, hw]
     have : t < a.tmps.size := Nat.lt_of_lt_of_le (qjd hok ho t hw) J.size
     simp [Act.put, Array.getD, this, hv]
    ·obtain ⟨y, hy⟩ := Cur.exists (TOf ty pf A id ops (SOf listed)) (qfu ops t) (qgx call pf ty A id ops f) ((f 0).1.get t) ops.size (hTlt listed hs)
     have hc := hy.keep (j := j) (fun ⟨p, hp, hd⟩ => by rw [ho] at hp; cases hp; exact hw hd)
     rw [hx.unique hc, hput t hw]
     refine VR.mono hst.le _ _ (J.get t y (fun p h1 h2 => hno p (by rw [qdo hjl]; exact .inl h1) (fun h => h.elim h2 (by rintro rfl; exact hSj h1))) hy)
   ·intro τ2 hτ2
    by_cases hw : cls ty pf (A.owned.contains (id, j)) o.op = 2
    ·have hc := Cur.write (S := TOf ty pf A id ops (SOf listed)) (W := WrAt ty pf A id ops) (val := fun i => (f (i + 1)).2) (x0 := (f 0).2) (j := j) ⟨o, ho, hw⟩ (fun k hk hwk => (orderW (by omega) (qpt hw) k hwk).1 hk)
     rw [hτ2.unique hc, ← h2 hw]; exact hI'
    ·have hc := hτ.keep (j := j) (fun ⟨p, hp, hd⟩ => by rw [ho] at hp; cases hp; exact hw hd)
     rw [hτ2.unique hc, ← hn2 hw]; exact hI'
   ·intro p h1 h2'
    obtain ⟨h3, h4⟩ := hold p h1 h2'
    exact (hblk p h3 h4).mono hst fun t ht => hput t (hdstP p h3 h4 t ht)
   ·intro p q h1 h2' h3 h4 h5
    obtain ⟨a1, a2⟩ := hold p h1 h2'
    obtain ⟨a3, a4⟩ := hold q h3 h4
    exact hdiff p q a1 a2 a3 a4 h5
   ·have := J.size
    cases o.dst <;> simpa [Act.put] using this
   ·cases o.dst <;> exact J.defers
  unfold wpOp
  rw [ho]
  simp only
  obtain ⟨hshape, hor⟩ := qda ho (htr j o ho)
  have hwant : ∀ r, qfo ops (f j).1.get o = some r → Region.wanted o (yielded ops a.tmps) = r := fun r hr =>
   qhm (g := g) (fun k b d hg hd => named d (.inr (.inr ⟨k, b, hg, hd⟩))) hr
  rcases hor with ⟨hw, hop⟩ | ⟨hw, hval, hsame⟩
  ·rw [if_pos (hwant _ hw)]
   left
   haveI : ∀ t, Decidable (Operand.tmp t ∈ o.op.operands.toList) := fun _ => Classical.propDecidable _
   let ρ : Operand → V := fun x => match x with
    | .tmp t => if (.tmp t ∈ o.op.operands.toList) then (f j).1.get t else .t .undef
    | x => (f j).1.eval x
   have hρ : ∀ x, VR g (ρ x) (a.eval x) := by
    intro x
    cases x with
    | tmp t =>
     simp only [ρ]
     split
     ·rename_i hm; exact named t (.inr (.inl hm))
     ·simp [VR, TR]
    | const c =>
     simp only [ρ, St.eval, Act.eval]
     split
     ·rename_i x hx; simp only [VR]; exact qkx hx
     ·simp [VR, TR]
    | global c => simp [ρ, St.eval, VR, TR]
    | func c => simp [ρ, St.eval, Act.eval, VR, VRs]
   have hcong : ∀ σ, opV call pf ty (A.owned.contains (id, j)) true o.op ρ σ = opV call pf ty (A.owned.contains (id, j)) true o.op (f j).1.eval σ := by
    intro σ
    refine q0s fun x hx => ?_
    cases x with
    | tmp t => simp only [ρ]; rw [if_pos hx]; rfl
    | _ => rfl
   by_cases h0 : cls ty pf (A.owned.contains (id, j)) o.op = 0
   ·obtain ⟨i1, i2⟩ := qry hp (hρf j) h0 hop
    have hopτ := i2 τ
    rw [← hcong] at hopτ
    exact qiq hcall hty hopτ hI hρ fun g' cv w' I' hv S' => next g' cv w' τ S' hv I' (fun h => by omega) (fun _ => rfl)
   ·by_cases hld : qgz o.op = true
    ·have hcl1 : cls ty pf (A.owned.contains (id, j)) o.op = 1 := qvf hld
     have hτk : ∃ k, k ≤ ops.size ∧ τ = (f k).2 ∧ (∀ p q, p < k → ops[p]? = some q → cls ty pf (A.owned.contains (id, p)) q.op = 2 → memN j (stops (Region.before ops) p) = false) ∧ (∀ p q, ops[p]? = some q → cls ty pf (A.owned.contains (id, p)) q.op = 2 → memN p (stops (Region.before ops) j) = true → p < k) := by
      rcases hτ with ⟨i, hSi, hWi, rfl, hmax⟩ | ⟨hno, rfl⟩
      ·obtain ⟨pi, hpi, hci⟩ := hWi
       refine ⟨i + 1, lt_of_some hpi, rfl, fun p q hp hq hc => ?_, fun p q hq hc hm => ?_⟩
       ·cases hm : memN j (stops (Region.before ops) p) with
        | false => rfl
        | true =>
         exfalso
         obtain ⟨_, hb⟩ := qjw hm
         have hSp : SOf listed p := by
          by_cases hpi' : p = i
          ·rw [hpi']; exact hSi.1
          ·exact (J.ini i hSi ⟨pi, hpi, hci⟩ p (by omega) ⟨q, hq, hc⟩).1
         exact hSj (hcb p j hSp hb)
       ·obtain ⟨hpj, hb⟩ := qjw hm
        have := hmax p (doneT p hpj hb) ⟨q, hq, hc⟩
        omega
      ·refine ⟨0, by omega, rfl, fun p q hp => by omega, fun p q hq hc hm => ?_⟩
       obtain ⟨hpj, hb⟩ := qjw hm
       exact (hno p (doneT p hpj hb) ⟨q, hq, hc⟩).elim
     -- the store now, and the walk's own then: one goes on behind the other
     have chain : ∀ a b, a ≤ b → b ≤ ops.size → (∀ k p, a ≤ k → k < b → ops[k]? = some p → cls ty pf (A.owned.contains (id, k)) p.op = 2 → qeo p.op = true) → ∃ os, (f b).2 = (f a).2 ++ os := by
      intro a b
      induction b with
      | zero => intro hab _ _; obtain rfl : a = 0 := by omega
                exact ⟨[], by simp⟩
      | succ b ihb =>
       intro hab hb hall
       rcases Nat.lt_or_ge b a with hlt | hge
       ·obtain rfl : a = b + 1 := by omega
        exact ⟨[], by simp⟩
       ·obtain ⟨os, h1⟩ := ihb hge (by omega) (fun k p h1 h2 => hall k p h1 (by omega))
        obtain ⟨p, hp⟩ := hopt b (by omega)
        by_cases hc : cls ty pf (A.owned.contains (id, b)) p.op = 2
        ·have ha := hall b p hge (by omega) hp hc
         rcases (qda hp (htr b p hp)).2 with ⟨_, h2⟩ | ⟨_, _, h2⟩
         ·obtain ⟨os2, h3⟩ := qzb ha h2
          exact ⟨os ++ os2, by rw [h3, h1, List.append_assoc]⟩
         ·exact ⟨os, by rw [h2, h1]⟩
        ·rw [(sseq b (by omega)).2 (fun ⟨q, hq, hqc⟩ => by rw [hp] at hq; cases hq; exact hc hqc)]
         exact ⟨os, h1⟩
     have nonAlloc : A.dyn.contains id = false → ∀ k p, ops[k]? = some p → cls ty pf (A.owned.contains (id, k)) p.op = 2 → qeo p.op = false → (TOf ty pf A id ops (SOf listed) k ↔ k < j) := by
      intro hdf k p hp hc hna
      have hkj : k ≠ j := by rintro rfl; rw [ho] at hp; cases hp; omega
      rcases D.eff k j p o hp ho hkj hc h0 (by rw [hna, hdf]; rfl) with h | ⟨_, h⟩ | ⟨_, _, h⟩
      ·exact orderT k hkj h
      ·obtain ⟨⟨e, he⟩, _⟩ := qfi h
       rw [he] at hld; cases hld
      ·omega
     have hrel : A.dyn.contains id = false → (∃ os, τ = (f j).2 ++ os) ∨ (∃ os, (f j).2 = τ ++ os) := by
      intro hdf
      have nonAlloc := nonAlloc hdf
      rcases hτ with ⟨i, hSi, hWi, rfl, hmax⟩ | ⟨hno, rfl⟩
      ·have hij : i ≠ j := by rintro rfl; exact hSj hSi.1
       obtain ⟨pi, hpi, hci⟩ := hWi
       have hil := lt_of_some hpi
       rcases Nat.lt_or_ge i j with h | h
       ·right
        refine chain (i + 1) j (by omega) (by omega) fun k p h1 h2 hp hc => ?_
        cases ha : qeo p.op with
        | true => rfl
        | false =>
         have := hmax k ((nonAlloc k p hp hc ha).2 h2) ⟨p, hp, hc⟩
         omega
       ·left
        refine chain j (i + 1) (by omega) (by omega) fun k p h1 h2 hp hc => ?_
        cases ha : qeo p.op with
        | true => rfl
        | false =>
         exfalso
         have hTk : TOf ty pf A id ops (SOf listed) k := by
          by_cases hki : k = i
          ·subst hki; exact hSi
          ·exact J.ini i hSi ⟨pi, hpi, hci⟩ k (by omega) ⟨p, hp, hc⟩
         have := (nonAlloc k p hp hc ha).1 hTk
         omega
      ·right
       refine chain 0 j (by omega) (by omega) fun k p h1 h2 hp hc => ?_
       cases ha : qeo p.op with
       | true => rfl
       | false => exact (hno k ((nonAlloc k p hp hc ha).2 h2) ⟨p, hp, hc⟩).elim
     have hopτ : opV call pf ty (A.owned.contains (id, j)) true o.op ρ τ = some (qgx call pf ty A id ops f j, τ) := by
      have h1 := hop
      rw [← hcong] at h1
      cases hoo : o.op <;> rw [hoo] at hld <;> simp only [qgz, Bool.false_eq_true] at hld
      case load t x =>
       rw [hoo] at h1
       simp only [opV, qcf, qae] at h1 ⊢
       cases ht : ty t with
       | none => simp [ht] at h1
       | some i =>
        simp only [ht] at h1 ⊢
        cases hl : qbx (f j).2 i (ρ x) with
        | none => simp [hl] at h1
        | some u =>
         simp only [hl, Option.map_some] at h1
         have hu : u = qgx call pf ty A id ops f j := by
          split at h1
          ·cases h1
          ·simp only [Option.some.injEq, Prod.mk.injEq] at h1
           exact h1.1
         have hptr : ∀ loc g' off ext, ρ x = .ptr loc g' off ext → loc < τ.length := by
          intro loc g' off ext hx
          have := hρ x
          rw [hx] at this
          simp only [VR] at this
          have hlen := hI.len
          omega
         have hlτ : qbx τ i (ρ x) = some u := by
          cases hdd : A.dyn.contains id with
          | true =>
           obtain ⟨k, hk, hτk, hk1, hk2⟩ := hτk
           have hρx : ρ x = (f j).1.eval x := by
            cases x with
            | tmp t =>
             have hm : Operand.tmp t ∈ o.op.operands.toList := by rw [hoo]; simp [Op.operands]
             simp only [ρ]; rw [if_pos hm]; rfl
            | _ => rfl
           have hlo : qdp ty ops o (f j).1 = some (i, ρ x) := by
            simp only [qdp, hoo, hw, ht, hρx]
           have hok := hdyn hdd j o i (ρ x) u ho hlo hl k hk hk1 hk2
           rw [← hτk] at hok
           cases hx : ρ x with
           | ptr loc g' off ext =>
            rw [hx] at hok
            have h2 : Nat.blt loc τ.length = true := by rw [Nat.blt_eq]; exact hptr _ _ _ _ hx
            simp only [okAt, h2] at hok
            cases hl2 : qbx τ i (.ptr loc g' off ext) with
            | none => rw [hl2] at hok; cases hok
            | some u' => rw [hl2] at hok; rw [q0f hok]
           | t y => rw [hx] at hl; cases y <;> exact hl
           | _ => rw [hx] at hl; exact hl
          | false =>
          rcases hrel hdd with ⟨os, e⟩ | ⟨os, e⟩
          ·rw [e]; exact qqw hl
          ·rw [e] at hl
           exact qqk hptr hl
         simp only [hlτ, Option.map_some, hu, beq_self, Bool.not_true, Bool.and_false, Bool.false_eq_true, if_false]
     exact qiq hcall hty hopτ hI hρ fun g' cv w' I' hv S' => next g' cv w' τ S' hv I' (fun h2 => by omega) (fun _ => rfl)
    have hld : qgz o.op = false := by simpa using hld
    have hτe := hτeq h0 hld
    have hopτ := hop
    rw [← hcong, ← hτe] at hopτ
    exact qiq hcall hty hopτ hI hρ fun g' cv w' I' hv S' => next g' cv w' _ S' hv I' (fun _ => rfl) (fun h2 => by rw [hτe]; exact qly hp (hρf j) h2 hop)
  ·rw [if_neg (by rw [hwant _ hw]; simp)]
   refine next g undef w τ (Step.refl g w) (by rw [hval]; exact qxg) hI (fun h2 => ?_) (fun _ => rfl)
   rw [hsame]; exact hτeq (by omega) (qpt h2)

end Go.V

/- Control: a body that runs in the interpreter runs in the model. -/
namespace Go.V

/-- Static, of a whole body. -/
def qdg (ty : TypeId → Option TI) (pf : FuncId → Bool) (A : Ann) (n : Nat) : Code → Bool
 | .region id ops draw => A.bad.contains id || (qxw n ops && (!draw || qwe ty pf A id ops))
 | .seq a b => qdg ty pf A n a && qdg ty pf A n b
 | .cond _ a b => qdg ty pf A n a && qdg ty pf A n b
 | .block _ b => qdg ty pf A n b
 | .loop b => qdg ty pf A n b
 | .skip => true
 | .exit _ => true
 | .ret => true
 | _ => false

theorem qsb {call : qbo} {pf : FuncId → Bool} {ty : TypeId → Option TI} {A : Ann} {id : Nat} {draw : Bool} {ops : Array Oper} : ∀ (l : List Oper) (i : Nat) (st st' : St) (σ σ' : Store), qby call pf ty A id draw ops i l st σ = some (st', σ') →
  (∀ t v, st.scr.find t = some v → A.vars.contains t = false) → (∀ t v, st.vars.find t = some v → A.vars.contains t = true) →
  (∀ t v, st'.scr.find t = some v → A.vars.contains t = false) ∧ (∀ t v, st'.vars.find t = some v → A.vars.contains t = true)
 | [], i, st, st', σ, σ', h, h1, h2 => by
  simp only [qby, Option.some.injEq, Prod.mk.injEq] at h
  obtain ⟨rfl, rfl⟩ := h
  exact ⟨h1, h2⟩
 | o :: l, i, st, st', σ, σ', h, h1, h2 => by
  simp only [qby] at h
  split at h
  ·rename_i st1 σ1 hr
   have put : ∀ v, (∀ t u, (st.putO A o.dst v).scr.find t = some u → A.vars.contains t = false) ∧ (∀ t u, (st.putO A o.dst v).vars.find t = some u → A.vars.contains t = true) := by
    intro v
    cases o.dst with
    | none => exact ⟨h1, h2⟩
    | some t => exact ⟨quk A st t v h1, qvv A st t v h2⟩
   have : (∀ t u, st1.scr.find t = some u → A.vars.contains t = false) ∧ (∀ t u, st1.vars.find t = some u → A.vars.contains t = true) := by
    unfold qcw at hr
    split at hr
    ·split at hr
     ·rename_i v σ2 _; cases hr; exact put v
     ·cases hr
    ·cases hr; exact put _
    ·cases hr
   exact qsb l (i + 1) st1 st' σ1 σ' h this.1 this.2
  ·cases h

theorem qip (n : Nat) : SOf (Array.replicate n false) = fun _ => False := by
 funext i
 simp [SOf, Array.getD_eq_getD_getElem?, Array.getElem?_replicate]
 split <;> simp

theorem qmg {call : qbo} {pf : FuncId → Bool} (hp : qfv call pf) {ty : TypeId → Option TI} {A : Ann} {id i : Nat} {ops : Array Oper} {o : Oper} {st st' : St} {σ σ' : Store} (hc : cls ty pf (A.owned.contains (id, i)) o.op ≠ 2) (h : qcw call pf ty A id true ops i o st σ = some (st', σ')) : σ' = σ := by
 unfold qcw at h
 split at h
 ·split at h
  ·rename_i v σ2 hv; cases h; exact qly hp (fun _ => rfl) hc hv
  ·cases h
 ·cases h; rfl
 ·cases h

theorem qyx {ty : TypeId → Option TI} {pf : FuncId → Bool} {owned : Bool} {ops : Array Oper} {o : Oper} {st : St} {r : TI × V} (h : qdp ty ops o st = some r) : cls ty pf owned o.op ≠ 2 := by
 unfold qdp at h
 split at h
 ·rename_i t a e; rw [e]; simp [cls]
 ·cases h

/-- Writers: the operations that may turn the store. -/
def Wr (ty : TypeId → Option TI) (pf : FuncId → Bool) (A : Ann) (id p : Nat) (q : Oper) : Prop := cls ty pf (A.owned.contains (id, p)) q.op = 2

theorem qlg {stop : List Nat} {l : Nat × TI × V × V} : ∀ {ls : Lds}, l ∈ ls → memN l.1 stop = false → l ∈ qhk stop ls
 | [], h, _ => by cases h
 | x :: r, h, hm => by
  simp only [qhk]
  rcases List.mem_cons.1 h with rfl | h
  ·rw [hm]; simp
  ·split
   ·exact qlg h hm
   ·exact List.mem_cons_of_mem _ (qlg h hm)
theorem qil {call : qbo} {pf : FuncId → Bool} (hp : qfv call pf) {ty : TypeId → Option TI} {A : Ann} {id : Nat} {ops : Array Oper} {b : Array Nat} : ∀ (l : List Oper) (i : Nat) (st st' : St) (σ σ' : Store) (w : Nat) (hs : List (Nat × Store)) (ls : Lds), qbd call pf ty A id ops b i l st σ ((w, σ) :: hs) ls = some (st', σ') → (∀ p ∈ ls, okAt σ p.2.1 p.2.2.1 p.2.2.2 = true) →
  qby call pf ty A id true ops i l st σ = some (st', σ') ∧ ∃ f : Nat → St × Store, f i = (st, σ) ∧ f (i + l.length) = (st', σ') ∧ (∀ k o, l[k]? = some o → qcw call pf ty A id true ops (i + k) o (f (i + k)).1 (f (i + k)).2 = some (f (i + k + 1))) ∧
  (∀ k o ti x v, l[k]? = some o → qdp ty ops o (f (i + k)).1 = some (ti, x) → qbx (f (i + k)).2 ti x = some v → ((∀ p q, p < k → l[p]? = some q → Wr ty pf A id (i + p) q → memN (i + p) (stops b (i + k)) = false) → chkH (stops b (i + k)) (fun τ => okAt τ ti x v) ((w, σ) :: hs) = true) ∧
   ∀ m, m ≤ l.length → (∀ p q, p < m → l[p]? = some q → Wr ty pf A id (i + p) q → memN (i + k) (stops b (i + p)) = false) → (∀ p q, l[p]? = some q → Wr ty pf A id (i + p) q → memN (i + p) (stops b (i + k)) = true → p < m) → okAt (f (i + m)).2 ti x v = true) ∧
  (∀ e ∈ ls, ∀ m, m ≤ l.length → (∀ p q, p < m → l[p]? = some q → Wr ty pf A id (i + p) q → memN e.1 (stops b (i + p)) = false) → okAt (f (i + m)).2 e.2.1 e.2.2.1 e.2.2.2 = true)
 | [], i, st, st', σ, σ', w, hs, ls, h, hls => by
  simp only [qbd, Option.some.injEq, Prod.mk.injEq] at h
  obtain ⟨rfl, rfl⟩ := h
  exact ⟨rfl, fun _ => (st, σ), rfl, rfl, fun k o hk => by simp at hk, fun k o _ _ _ hk => by simp at hk, fun p hp m _ _ => hls p hp⟩
 | o :: l, i, st, st', σ, σ', w, hs, ls, h, hls => by
  simp only [qbd] at h
  split at h
  ·rename_i st1 σ1 h1
   -- what comes behind, put together
   have go : ∀ (w1 : Nat) (hs1 : List (Nat × Store)) (ls' : Lds), qbd call pf ty A id ops b (i + 1) l st1 σ1 ((w1, σ1) :: hs1) ls' = some (st', σ') → (∀ p ∈ ls', okAt σ1 p.2.1 p.2.2.1 p.2.2.2 = true) →
     (∀ stop f, (Wr ty pf A id i o → memN i stop = false) → chkH stop f ((w1, σ1) :: hs1) = true → chkH stop f ((w, σ) :: hs) = true) →
     (∀ e ∈ ls, (Wr ty pf A id i o → memN e.1 (stops b i) = false) → e ∈ ls') →
     (∀ ti x v, qdp ty ops o st = some (ti, x) → qbx σ ti x = some v → (i, ti, x, v) ∈ ls' ∧ chkH (stops b i) (fun τ => okAt τ ti x v) ((w, σ) :: hs) = true) →
     qby call pf ty A id true ops i (o :: l) st σ = some (st', σ') ∧ ∃ f : Nat → St × Store, f i = (st, σ) ∧ f (i + (o :: l).length) = (st', σ') ∧ (∀ k o', (o :: l)[k]? = some o' → qcw call pf ty A id true ops (i + k) o' (f (i + k)).1 (f (i + k)).2 = some (f (i + k + 1))) ∧
     (∀ k o' ti x v, (o :: l)[k]? = some o' → qdp ty ops o' (f (i + k)).1 = some (ti, x) → qbx (f (i + k)).2 ti x = some v → ((∀ p q, p < k → (o :: l)[p]? = some q → Wr ty pf A id (i + p) q → memN (i + p) (stops b (i + k)) = false) → chkH (stops b (i + k)) (fun τ => okAt τ ti x v) ((w, σ) :: hs) = true) ∧
      ∀ m, m ≤ (o :: l).length → (∀ p q, p < m → (o :: l)[p]? = some q → Wr ty pf A id (i + p) q → memN (i + k) (stops b (i + p)) = false) → (∀ p q, (o :: l)[p]? = some q → Wr ty pf A id (i + p) q → memN (i + p) (stops b (i + k)) = true → p < m) → okAt (f (i + m)).2 ti x v = true) ∧
     (∀ e ∈ ls, ∀ m, m ≤ (o :: l).length → (∀ p q, p < m → (o :: l)[p]? = some q → Wr ty pf A id (i + p) q → memN e.1 (stops b (i + p)) = false) → okAt (f (i + m)).2 e.2.1 e.2.2.1 e.2.2.2 = true) := by
    intro w1 hs1 ls' hr hls1 hch lsub hnew
    obtain ⟨r0, f, f0, fn, fs, fa, fb⟩ := qil hp l (i + 1) st1 st' σ1 σ' w1 hs1 ls' hr hls1
    have eS : ∀ k, (if i + (k + 1) = i then (st, σ) else f (i + (k + 1))) = f (i + 1 + k) := fun k => by rw [if_neg (by omega), show i + (k + 1) = i + 1 + k by omega]
    have eI : ∀ k, i + (k + 1) = i + 1 + k := fun k => by omega
    have head : ∀ {stop : List Nat} {g : Store → Bool}, chkH stop g ((w, σ) :: hs) = true → g σ = true := by
     intro stop g hg
     simp only [chkH, Bool.and_eq_true] at hg
     exact hg.1
    refine ⟨by simp only [qby, h1]; exact r0, fun k => if k = i then (st, σ) else f k, by simp, ?_, fun k o' hk => ?_, fun k o' ti x v hk hlo hlv => ?_, fun e he m hm hC => ?_⟩
    ·show (if i + (o :: l).length = i then (st, σ) else f (i + (o :: l).length)) = (st', σ')
     rw [if_neg (by simp), ← fn]; congr 1; simp; omega
    ·cases k with
     | zero =>
      simp at hk; subst hk
      simp only [Nat.add_zero, if_true]
      rw [if_neg (by omega), h1, f0]
     | succ k =>
      simp at hk
      have e2 : (if i + (k + 1) + 1 = i then (st, σ) else f (i + (k + 1) + 1)) = f (i + 1 + k + 1) := by rw [if_neg (by omega), show i + (k + 1) + 1 = i + 1 + k + 1 by omega]
      have := fs k o' hk
      simp only [eS, e2]
      rw [show i + (k + 1) = i + 1 + k by omega]
      exact this
    ·cases k with
     | zero =>
      simp at hk; subst hk
      simp only [Nat.add_zero, if_true] at hlo hlv ⊢
      obtain ⟨n1, n2⟩ := hnew ti x v hlo hlv
      refine ⟨fun _ => n2, fun m hm hC1 hC2 => ?_⟩
      cases m with
      | zero => simp only [Nat.add_zero, if_true]; exact head n2
      | succ m =>
       have := fb _ n1 m (by simp at hm; omega) (fun p q hpm hq hW => by rw [← eI] at hW ⊢; exact hC1 (p + 1) q (by omega) (by simpa using hq) hW)
       simp only [eS]
       exact this
     | succ k =>
      simp at hk
      simp only [eS] at hlo hlv
      obtain ⟨n1, n2⟩ := fa k o' ti x v hk hlo hlv
      rw [← eI] at n1 n2
      have m0 : (∀ p q, p < k + 1 → (o :: l)[p]? = some q → Wr ty pf A id (i + p) q → memN (i + p) (stops b (i + (k + 1))) = false) → chkH (stops b (i + (k + 1))) (fun τ => okAt τ ti x v) ((w, σ) :: hs) = true := by
       intro hC
       refine hch _ _ (fun hW => hC 0 o (by omega) (by simp) (by simpa using hW)) (n1 fun p q hpk hq hW => ?_)
       rw [← eI] at hW ⊢
       exact hC (p + 1) q (by omega) (by simpa using hq) hW
      refine ⟨m0, fun m hm hC1 hC2 => ?_⟩
      cases m with
      | zero =>
       simp only [Nat.add_zero, if_true]
       refine head (m0 fun p q _ hq hW => ?_)
       cases hmm : memN (i + p) (stops b (i + (k + 1))) with
       | false => rfl
       | true => have := hC2 p q hq hW hmm; omega
      | succ m =>
       have := n2 m (by simp at hm; omega) (fun p q hpm hq hW => by rw [← eI] at hW ⊢; exact hC1 (p + 1) q (by omega) (by simpa using hq) hW)
        (fun p q hq hW hmm => by rw [← eI] at hW hmm; have := hC2 (p + 1) q (by simpa using hq) hW hmm; omega)
       simp only [eS]
       exact this
    ·cases m with
     | zero => simp only [Nat.add_zero, if_true]; exact hls e he
     | succ m =>
      have := fb e (lsub e he fun hW => hC 0 o (by omega) (by simp) (by simpa using hW)) m (by simp at hm; omega) (fun p q hpm hq hW => by rw [← eI] at hW ⊢; exact hC (p + 1) q (by omega) (by simpa using hq) hW)
      simp only [eS]
      exact this
   split at h
   ·rename_i ti x hlo
    have hcl2 := qyx (pf := pf) (owned := A.owned.contains (id, i)) hlo
    have hk := qmg hp hcl2 h1
    subst hk
    split at h
    ·rename_i v hlv
     split at h
     ·rename_i hall
      refine go w hs ((i, ti, x, v) :: ls) h (fun p hp => ?_) (fun _ _ _ hh => hh) (fun p hp _ => by simp [hp]) (fun ti' x' v' h2 h3 => ?_)
      ·rcases List.mem_cons.1 hp with rfl | hp
       ·simp only [chkH, Bool.and_eq_true] at hall; exact hall.1
       ·exact hls p hp
      ·rw [hlo] at h2; cases h2
       rw [hlv] at h3; cases h3
       exact ⟨by simp, hall⟩
     ·cases h
    ·cases h
   ·rename_i hlo
    split at h
    ·rename_i hcl
     have hW : Wr ty pf A id i o := Nat.eq_of_beq_eq_true hcl
     split at h
     ·rename_i hall
      rw [List.all_eq_true] at hall
      refine go i ((w, σ) :: hs) (qhk (stops b i) ls) h hall (fun stop f hm hc => ?_) (fun p hp hm => qlg hp (hm hW)) (fun ti x v h2 _ => by rw [hlo] at h2; cases h2)
      simp only [chkH, hm hW, Bool.false_or, Bool.and_eq_true] at hc ⊢
      exact hc.2
     ·cases h
    ·rename_i hcl
     have hk := qmg hp (fun e => by rw [e] at hcl; simp at hcl) h1
     subst hk
     exact go w hs ls h hls (fun _ _ _ hh => hh) (fun p hp _ => hp) (fun ti x v h2 _ => by rw [hlo] at h2; cases h2)
  ·cases h

theorem qro {P : Program} {call : qbo} (hcall : qiv P call) (hm : P.follows .mixedOrders = true) {pf : FuncId → Bool} (hp : qfv call pf) {ty : TypeId → Option TI} (hty : ∀ t x, ty t = some x → tiOf P t = some x) {n : Nat} {A : Ann} {id : Nat} {ops : Array Oper} {draw : Bool} (hok : qxw n ops = true) (hd : draw = true → qwe ty pf A id ops = true) {Q : Exit → Act → World → Prop}
  {st st' : St} {σ σ' : Store} (h0 : qcy call pf ty A id draw ops { st with scr := [] } σ = some (st', σ')) {g : G} {a : Act} {w : World} (I : Inv g σ w) (R : StRel n A g st a)
  (hq : ∀ g' a' w', Inv g' σ' w' → StRel n A g' st' a' → Step g w g' w' → Q .normal a' w') : (Code.region id ops draw).wp P Q a w := by
 have R0 := R.fresh
 unfold qcy at h0
 split at h0
 ·cases h0
 cases draw with
 | false =>
  have h : qby call pf ty A id false ops 0 ops.toList { st with scr := [] } σ = some (st', σ') := by simpa using h0
  apply wp_region
  have := qki hcall hty hok (Q := Q) ops.toList 0 _ st' σ σ' (fun j => by simp) h g a w I R0 hq
  simpa [List.range_eq_range'] using this
 | true =>
  apply wp_region_any hm
  have tr : qby call pf ty A id true ops 0 ops.toList { st with scr := [] } σ = some (st', σ') ∧ ∃ f : Nat → St × Store, f 0 = ({ st with scr := [] }, σ) ∧ f (0 + ops.toList.length) = (st', σ') ∧ (∀ k o, ops.toList[k]? = some o → qcw call pf ty A id true ops (0 + k) o (f (0 + k)).1 (f (0 + k)).2 = some (f (0 + k + 1))) ∧
    (A.dyn.contains id = true → ∀ j o ti x v, ops[j]? = some o → qdp ty ops o (f j).1 = some (ti, x) → qbx (f j).2 ti x = some v → ∀ k, k ≤ ops.size → (∀ p q, p < k → ops[p]? = some q → cls ty pf (A.owned.contains (id, p)) q.op = 2 → memN j (stops (Region.before ops) p) = false) → (∀ p q, ops[p]? = some q → cls ty pf (A.owned.contains (id, p)) q.op = 2 → memN p (stops (Region.before ops) j) = true → p < k) → okAt (f k).2 ti x v = true) := by
   cases hdy : A.dyn.contains id with
   | true =>
    rw [hdy] at h0
    obtain ⟨r0, f, f0, fn, fs, fa, _⟩ := qil hp ops.toList 0 _ st' σ σ' ops.size [] [] (by simpa using h0) (by simp)
    refine ⟨r0, f, f0, fn, fs, fun _ j o ti x v hj hlo hlv k hk hk1 hk2 => ?_⟩
    have := (fa j o ti x v (by simpa using hj) (by simpa using hlo) (by simpa using hlv)).2 k (by simpa using hk) (fun p q hp hq hW => by
     have := hk1 p q hp (by simpa using hq) (by simpa [Wr] using hW); simpa using this) (fun p q hq hW hm => hk2 p q (by simpa using hq) (by simpa [Wr] using hW) (by simpa using hm))
    simpa using this
   | false =>
    rw [hdy] at h0
    have h : qby call pf ty A id true ops 0 ops.toList { st with scr := [] } σ = some (st', σ') := by simpa using h0
    obtain ⟨f, f0, fn, fs⟩ := qkh ops.toList 0 _ st' σ σ' h
    exact ⟨h, f, f0, fn, fs, fun hh => by cases hh⟩
  obtain ⟨h, f, f0, fn, fs, fdyn⟩ := tr
  have hsz : (0 + ops.toList.length) = ops.size := by simp
  rw [hsz] at fn
  have hwf := qsb ops.toList 0 _ st' σ σ' h R0.scr R0.vars
  have hS : Step g w g { w with drawn := w.drawn + 1 } := Step.sameHeap I rfl rfl rfl rfl
  have hnone : TOf ty pf A id ops (fun _ => False) = fun _ => False := by
   funext i
   simp [TOf]
  refine qza hcall hp hty hok (qva (hd rfl)) (Q := Q) (f := f) (g0 := g) (w0 := w) fdyn (fun i o ho => ?_) (by rw [f0]; exact R0.scr) ?_ ops.size _ a _ g (by simp) ?_ ?_ ?_
  ·have := fs i o (by simpa using ho)
   simpa using this
  ·intro g' a' w' I' hv hs hd' S'
   rw [fn] at I' hv
   exact hq g' a' w' I' ⟨hv, hs, hwf.1, hwf.2, hd'⟩ S'
  ·intro j o hj
   rw [qip] at hj
   exact hj.elim
  ·simp
  ·rw [qip, hnone]
   refine ⟨hS, fun _ h => h, fun _ h => h.elim, ?_, ?_, ⟨fun _ => 0, fun _ h => h.elim, fun _ _ h => h.elim⟩, R.size, R.defers⟩
   ·intro t x _ hx
    have : x = (f 0).1.get t := hx.unique Cur.start
    rw [this, f0]
    exact R0.get t
   ·intro τ hτ
    have : τ = (f 0).2 := hτ.unique Cur.start
    rw [this, f0]
    exact I.sameHeap rfl

theorem qzo {P : Program} {call : qbo} (hcall : qiv P call) (hm : P.follows .mixedOrders = true) {pf : FuncId → Bool} (hp : qfv call pf) {ty : TypeId → Option TI} (hty : ∀ t x, ty t = some x → tiOf P t = some x) {n : Nat} {A : Ann} :
  ∀ (fuel : Nat),
    (∀ (c : Code) (st : St) (σ : Store) (ex : Ex) (st' : St) (σ' : Store), qdg ty pf A n c = true → runC call pf ty A fuel c st σ = some (ex, st', σ') →
     ∀ (Q : Exit → Act → World → Prop) (g : G) (a : Act) (w : World), Inv g σ w → StRel n A g st a → (∀ g' a' w', Inv g' σ' w' → StRel n A g' st' a' → Step g w g' w' → Q (exOf ex) a' w') → c.wp P Q a w) ∧
    (∀ (b : Code) (st : St) (σ : Store) (ex : Ex) (st' : St) (σ' : Store), qdg ty pf A n b = true → runC call pf ty A fuel (.loop b) st σ = some (ex, st', σ') →
     ∀ (Q : Exit → Act → World → Prop) (g : G) (a : Act) (w : World), Inv g σ w → StRel n A g st a → (∀ g' a' w', Inv g' σ' w' → StRel n A g' st' a' → Step g w g' w' → Q (exOf ex) a' w') → Code.rounds P b Q fuel a w) := by
 intro fuel
 induction fuel with
 | zero => exact ⟨fun c st σ ex st' σ' _ h => by simp [runC] at h, fun b st σ ex st' σ' _ h => by simp [runC] at h⟩
 | succ fuel ih =>
  have P2 : ∀ (b : Code) (st : St) (σ : Store) (ex : Ex) (st' : St) (σ' : Store), qdg ty pf A n b = true → runC call pf ty A (fuel + 1) (.loop b) st σ = some (ex, st', σ') →
    ∀ (Q : Exit → Act → World → Prop) (g : G) (a : Act) (w : World), Inv g σ w → StRel n A g st a → (∀ g' a' w', Inv g' σ' w' → StRel n A g' st' a' → Step g w g' w' → Q (exOf ex) a' w') → Code.rounds P b Q (fuel + 1) a w := by
   intro b st σ ex st' σ' hok h Q g a w I R hq
   rw [rounds_succ]
   simp only [runC] at h
   split at h
   ·rename_i st1 σ1 h1
    refine ih.1 b st σ .normal st1 σ1 hok h1 _ g a w I R fun g' a' w' I' R' S' => ?_
    exact ih.2 b st1 σ1 ex st' σ' hok h Q g' a' w' I' R' fun g2 a2 w2 I2 R2 S2 => hq g2 a2 w2 I2 R2 (S'.trans S2)
   ·rename_i hne
    refine ih.1 b st σ ex st' σ' hok h _ g a w I R fun g' a' w' I' R' S' => ?_
    have := hq g' a' w' I' R' S'
    cases ex with
    | normal => exact (hne _ _ h).elim
    | exit id => exact this
    | ret => exact this
  refine ⟨?_, P2⟩
  intro c st σ ex st' σ' hok h Q g a w I R hq
  cases c with
  | skip =>
   simp only [runC, Option.some.injEq, Prod.mk.injEq] at h
   obtain ⟨rfl, rfl, rfl⟩ := h
   exact wp_skip (hq g a w I R (Step.refl g w))
  | region id ops draw =>
   simp only [runC] at h
   simp only [qdg] at hok
   cases hr : qcy call pf ty A id draw ops { st with scr := [] } σ with
   | none => rw [hr] at h; cases h
   | some r =>
    rw [hr] at h
    simp only [Option.map_some, Option.some.injEq, Prod.mk.injEq] at h
    obtain ⟨rfl, rfl, rfl⟩ := h
    have hb : A.bad.contains id = false := by
     cases hb : A.bad.contains id with
     | false => rfl
     | true => unfold qcy at hr; rw [if_pos hb] at hr; cases hr
    rw [hb] at hok
    simp only [Bool.false_or, Bool.and_eq_true, Bool.or_eq_true, Bool.not_eq_true'] at hok
    exact qro hcall hm hp hty hok.1 (fun hd => hok.2.resolve_left (by rw [hd]; simp)) hr I R hq
  | seq x y =>
   simp only [qdg, Bool.and_eq_true] at hok
   simp only [runC] at h
   apply wp_seq
   split at h
   ·rename_i st1 σ1 h1
    refine ih.1 x st σ .normal st1 σ1 hok.1 h1 _ g a w I R fun g' a' w' I' R' S' => ?_
    exact ih.1 y st1 σ1 ex st' σ' hok.2 h Q g' a' w' I' R' fun g2 a2 w2 I2 R2 S2 => hq g2 a2 w2 I2 R2 (S'.trans S2)
   ·rename_i hne
    refine ih.1 x st σ ex st' σ' hok.1 h _ g a w I R fun g' a' w' I' R' S' => ?_
    have := hq g' a' w' I' R' S'
    cases ex with
    | normal => exact (hne _ _ h).elim
    | exit id => exact this
    | ret => exact this
  | cond c x y =>
   simp only [qdg, Bool.and_eq_true] at hok
   simp only [runC] at h
   have hv := R.eval c
   split at h
   ·rename_i hc
    rw [hc] at hv
    exact wp_cond_true (by simpa only [VR, TR] using hv) (ih.1 x st σ ex st' σ' hok.1 h Q g a w I R hq)
   ·rename_i hc
    rw [hc] at hv
    exact wp_cond_false (by simpa only [VR, TR] using hv) (ih.1 y st σ ex st' σ' hok.2 h Q g a w I R hq)
   ·cases h
  | block id b =>
   simp only [qdg] at hok
   simp only [runC] at h
   apply wp_block
   split at h
   ·rename_i st1 σ1 h1
    simp only [Option.some.injEq, Prod.mk.injEq] at h
    obtain ⟨rfl, rfl, rfl⟩ := h
    exact ih.1 b st σ .normal st1 σ1 hok h1 _ g a w I R fun g' a' w' I' R' S' => hq g' a' w' I' (R'.kill id) S'
   ·rename_i id' st1 σ1 h1
    split at h
    ·rename_i he
     simp only [Option.some.injEq, Prod.mk.injEq] at h
     obtain ⟨rfl, rfl, rfl⟩ := h
     refine ih.1 b st σ _ st1 σ1 hok h1 _ g a w I R fun g' a' w' I' R' S' => ?_
     simp only [exOf, Exit.inBlock, he, if_true]
     exact hq g' a' w' I' (R'.kill id) S'
    ·rename_i he
     simp only [Option.some.injEq, Prod.mk.injEq] at h
     obtain ⟨rfl, rfl, rfl⟩ := h
     refine ih.1 b st σ _ st1 σ1 hok h1 _ g a w I R fun g' a' w' I' R' S' => ?_
     simp only [exOf, Exit.inBlock, he, if_false]
     exact hq g' a' w' I' R' S'
   ·rename_i hn1 hn2
    refine ih.1 b st σ ex st' σ' hok h _ g a w I R fun g' a' w' I' R' S' => ?_
    have := hq g' a' w' I' R' S'
    cases ex with
    | normal => exact (hn1 _ _ h).elim
    | exit id => exact (hn2 _ _ _ h).elim
    | ret => exact this
  | loop b => exact wp_loop_rounds (fuel + 1) (P2 b st σ ex st' σ' hok h Q g a w I R hq)
  | exit id =>
   simp only [runC, Option.some.injEq, Prod.mk.injEq] at h
   obtain ⟨rfl, rfl, rfl⟩ := h
   exact wp_exit (hq g a w I R (Step.refl g w))
  | ret =>
   simp only [runC, Option.some.injEq, Prod.mk.injEq] at h
   obtain ⟨rfl, rfl, rfl⟩ := h
   exact wp_ret (hq g a w I R (Step.refl g w))
  | _ => simp [qdg] at hok

end Go.V

/- What a callee leaves, laid behind the caller's store. -/
namespace Go.V

mutual
theorem qld {f f' : Nat → Nat → Option Value} : ∀ (x : T) (v : Value), qjk x = true → TR f x v → TR f' x v
 | .undef, _, _, _ => by simp [TR]
 | .bool _, _, _, h => by simpa [TR] using h
 | .int _ _, _, _, h => by simpa [TR] using h
 | .str _, _, _, h => by simpa [TR] using h
 | .nilp, _, _, h => by simpa [TR] using h
 | .nils, _, _, h => by simpa [TR] using h
 | .nilm, _, _, h => by simpa [TR] using h
 | .nilf, _, _, h => by simpa [TR] using h
 | .agg cs, v, hf, h => by
  simp only [TR, qjk] at h hf ⊢
  obtain ⟨a, e, h1, h2⟩ := h
  exact ⟨a, e, qoy cs _ hf h1, h2⟩
 | .tup cs, v, hf, h => by
  simp only [TR, qjk] at h hf ⊢
  obtain ⟨a, e, h1⟩ := h
  exact ⟨a, e, qoy cs _ hf h1⟩
 | .list [], v, _, h => by
  simp only [TR, TRrows] at h ⊢
  exact h
 | .list (_ :: _), _, hf, _ => by simp [qjk] at hf
 | .snap _, _, hf, _ => by simp [qjk] at hf
theorem qoy {f f' : Nat → Nat → Option Value} : ∀ (xs : List T) (l : List Value), qss xs = true → TRs f xs l → TRs f' xs l
 | [], l, _, h => by simpa [TRs] using h
 | x :: r, l, hf, h => by
  simp only [qss, Bool.and_eq_true] at hf
  simp only [TRs] at h ⊢
  obtain ⟨v, q, e, h1, h2⟩ := h
  exact ⟨v, q, e, qld x v hf.1 h1, qoy r q hf.2 h2⟩
end

/-- The second ghost behind the first. -/
def G.behind (g g0 : G) : G where
 fz := g.fz
 n := g.n + g0.n
 gn := fun l => if l < g.n then g.gn l else g0.gn (l - g.n)
 mu := fun l h => if l < g.n then g.mu l h else g0.mu (l - g.n) h
 sz := fun l h => if l < g.n then g.sz l h else g0.sz (l - g.n) h
 bs := fun l h => if l < g.n then g.bs l h else g0.bs (l - g.n) h
 mp := fun l => if l < g.n then g.mp l else g0.mp (l - g.n)

theorem qmd (g g0 : G) : g.Same (g.behind g0) :=
 ⟨fun l h => by simp [G.behind, h], fun l x h => by simp [G.behind, h], fun l x h => by simp [G.behind, h], fun l x h => by simp [G.behind, h], fun l h => by simp [G.behind, h]⟩

theorem qmn (g g0 : G) (l : Nat) : (g.behind g0).gn (g.n + l) = g0.gn l := by simp only [G.behind]; rw [if_neg (by omega), Nat.add_sub_cancel_left]
theorem qef (g g0 : G) (l h : Nat) : (g.behind g0).mu (g.n + l) h = g0.mu l h := by simp only [G.behind]; rw [if_neg (by omega), Nat.add_sub_cancel_left]
theorem qih (g g0 : G) (l h : Nat) : (g.behind g0).sz (g.n + l) h = g0.sz l h := by simp only [G.behind]; rw [if_neg (by omega), Nat.add_sub_cancel_left]
theorem qre (g g0 : G) (l h : Nat) : (g.behind g0).bs (g.n + l) h = g0.bs l h := by simp only [G.behind]; rw [if_neg (by omega), Nat.add_sub_cancel_left]
theorem qft (g g0 : G) (l : Nat) : (g.behind g0).mp (g.n + l) = g0.mp l := by simp only [G.behind]; rw [if_neg (by omega), Nat.add_sub_cancel_left]

mutual
theorem sh_VR {g g0 : G} : ∀ (x : V) (v : Value), VR g0 x v → VR (g.behind g0) (shV g.n x) v
 | .t x, v, h => by
  simp only [VR, shV, wipe] at h ⊢
  split
  ·rename_i hf; exact qld x v hf h
  ·simp [TR]
 | .sl loc gen off len k, v, h => by
  simp only [VR, shV, qmn, qef, qih, qre] at h ⊢
  obtain ⟨h1, h2⟩ := h
  exact ⟨by simp only [G.behind]; omega, h2⟩
 | .ptr loc gen off ext, v, h => by
  simp only [VR, shV, qmn, qef, qih] at h ⊢
  obtain ⟨h1, h2⟩ := h
  exact ⟨by simp only [G.behind]; omega, h2⟩
 | .mp loc, v, h => by
  simp only [VR, shV, qft] at h ⊢
  obtain ⟨h1, h2⟩ := h
  exact ⟨by simp only [G.behind]; omega, h2⟩
 | .fn f cs, v, h => by
  simp only [VR, shV] at h ⊢
  obtain ⟨a, e, h1⟩ := h
  exact ⟨a, e, qrn cs _ h1⟩
 | .bm f cs, v, h => by
  simp only [VR, shV] at h ⊢
  obtain ⟨a, e, h1⟩ := h
  exact ⟨a, e, qrn cs _ h1⟩
 | .agg cs, v, h => by
  simp only [VR, shV] at h ⊢
  obtain ⟨a, e, h1, h2⟩ := h
  exact ⟨a, e, qrn cs _ h1, h2⟩
 | .tup cs, v, h => by
  simp only [VR, shV] at h ⊢
  obtain ⟨a, e, h1⟩ := h
  exact ⟨a, e, qrn cs _ h1⟩
theorem qrn {g g0 : G} : ∀ (xs : List V) (l : List Value), VRs g0 xs l → VRs (g.behind g0) (shVs g.n xs) l
 | [], l, h => by simpa [VRs, shVs] using h
 | x :: r, l, h => by
  simp only [VRs, shVs] at h ⊢
  obtain ⟨v, q, e, h1, h2⟩ := h
  exact ⟨v, q, e, sh_VR x v h1, qrn r q h2⟩
end

theorem qxk (n : Nat) : ∀ (xs : List V) (i : Nat), (shVs n xs)[i]? = (xs[i]?).map (shV n)
 | [], i => by simp [shVs]
 | x :: r, 0 => by simp [shVs]
 | x :: r, i + 1 => by simpa [shVs] using qxk n r i

theorem qhg (n : Nat) : ∀ (xs : List V), (shVs n xs).length = xs.length
 | [] => rfl
 | x :: r => by simp [shVs, qhg n r]

theorem wipe_TR {f f' : Nat → Nat → Option Value} (x : T) (v : Value) (h : TR f x v) : TR f' (wipe x) v := by
 unfold wipe
 split
 ·rename_i hf; exact qld x v hf h
 ·simp [TR]
theorem qwx {g g0 : G} : ∀ (es : List (T × V)) (l : List MapEntry), EntsR g0 es l → EntsR (g.behind g0) (shEs g.n es) l
 | [], l, h => by simpa [EntsR, shEs] using h
 | (k, v) :: r, l, h => by
  simp only [EntsR, shEs] at h ⊢
  obtain ⟨e, q, e1, h1, h2, h3⟩ := h
  exact ⟨e, q, e1, wipe_TR k _ h1, sh_VR v _ h2, qwx r q h3⟩

theorem Inv.behind {g g0 : G} {σ σ0 : Store} {w w' : World} (I : Inv g σ w) (I0 : Inv g0 σ0 w') (hold : ∀ b, b < w.heap.size → w'.heap[b]? = w.heap[b]?)
  (hmu : ∀ loc h B, loc < g0.n → g0.mu loc h = some B → w.heap.size ≤ B) (hmp : ∀ loc B, loc < g0.n → g0.mp loc = some B → w.heap.size ≤ B) :
  Inv (g.behind g0) (σ ++ σ0.map (shO g.n)) w' := by
 have hn0 := I0.len
 have obj : ∀ i x, (σ0.map (shO g.n))[i]? = some x → ∃ y, σ0[i]? = some y ∧ x = shO g.n y ∧ i < g0.n := by
  intro i x hx
  rw [List.getElem?_map, Option.map_eq_some_iff] at hx
  obtain ⟨y, h1, h2⟩ := hx
  have hi : i < σ0.length := by
   rcases Nat.lt_or_ge i σ0.length with h | h
   ·exact h
   ·rw [List.getElem?_eq_none h] at h1; cases h1
  exact ⟨y, h1, h2.symm, by omega⟩
 have objc : ∀ i cs gen wgen, (σ0.map (shO g.n))[i]? = some (.cells cs gen wgen) → ∃ cs0, σ0[i]? = some (.cells cs0 gen wgen) ∧ cs = shVs g.n cs0 ∧ i < g0.n := by
  intro i cs gen wgen hx
  obtain ⟨y, h1, h2, h4⟩ := obj i _ hx
  cases y with
  | cells cs0 gen0 wgen0 => simp only [shO, Obj.cells.injEq] at h2; obtain ⟨rfl, rfl, rfl⟩ := h2; exact ⟨cs0, h1, rfl, h4⟩
  | map es => simp [shO] at h2
 have objm : ∀ i es, (σ0.map (shO g.n))[i]? = some (.map es) → ∃ es0, σ0[i]? = some (.map es0) ∧ es = shEs g.n es0 ∧ i < g0.n := by
  intro i es hx
  obtain ⟨y, h1, h2, h4⟩ := obj i _ hx
  cases y with
  | cells cs0 gen0 wgen0 => simp [shO] at h2
  | map es0 => simp only [shO, Obj.map.injEq] at h2; subst h2; exact ⟨es0, h1, rfl, h4⟩
 have back : ∀ i y, σ0[i]? = some y → (σ0.map (shO g.n))[i]? = some (shO g.n y) := fun i y h => by rw [List.getElem?_map, h]; rfl
 refine I.grow (qmd g g0) (fun _ _ _ h => h) (by simp only [G.behind, List.length_map]; omega) hold (fun b o v h => .inl h) ?_ ?_ ?_ ?_ ?_ ?_ ?_ ?_
 ·intro i cs gen wgen hx
  obtain ⟨cs0, h1, rfl, h4⟩ := objc _ _ _ _ hx
  rw [qmn, qih, qhg]
  exact I0.cur _ _ _ _ h1
 ·intro i cs gen wgen hx
  obtain ⟨cs0, h1, rfl, h4⟩ := objc _ _ _ _ hx
  obtain ⟨B, arr, elem, fr, q1, q2, q3, q4⟩ := I0.tip _ _ _ _ h1
  refine ⟨B, arr, elem, fr, by rw [qef]; exact q1, fun o => ?_, q3, q4⟩
  show g.fz B o = none
  cases hz : g.fz B o with
  | none => rfl
  | some v =>
   have := qcu (I.fz _ _ _ hz)
   have := hmu _ _ _ h4 q1
   omega
 ·intro i cs gen wgen h hx hw hg
  obtain ⟨cs0, h1, rfl, h4⟩ := objc _ _ _ _ hx
  obtain ⟨B, arr, elem, fr, q1, q2, q3, q4, q5, q6⟩ := I0.old _ _ _ _ _ h1 hw hg
  rw [qef, qre, qih, qhg]
  refine ⟨B, arr, elem, fr, q1, q2, q3, q4, q5, fun j c hj hc => ?_⟩
  rw [qxk, Option.map_eq_some_iff] at hc
  obtain ⟨c0, e1, rfl⟩ := hc
  obtain ⟨v, r1, r2, r3⟩ := q6 j c0 hj e1
  exact ⟨v, r1, r2, sh_VR c0 v r3⟩
 ·intro i h B hi hm
  rw [List.length_map] at hi
  rw [qef] at hm
  obtain ⟨cs, gen, wgen, q1, q2⟩ := I0.muc _ _ _ (by omega) hm
  exact ⟨hmu _ _ _ (by omega) hm, shVs g.n cs, gen, wgen, back _ _ q1, q2⟩
 ·intro i es hx
  obtain ⟨es0, h1, rfl, h4⟩ := objm _ _ hx
  obtain ⟨B, ents, clock, q1, q2, q3⟩ := I0.map _ _ h1
  exact ⟨B, ents, clock, by rw [qft]; exact q1, q2, qwx _ _ q3⟩
 ·intro i B hi hm
  rw [List.length_map] at hi
  rw [qft] at hm
  obtain ⟨es, q1⟩ := I0.mpc _ _ (by omega) hm
  exact ⟨hmp _ _ (by omega) hm, shEs g.n es, back _ _ q1⟩
 ·intro i h1 j h2 B hi hj m1 m2
  rw [List.length_map] at hi hj
  rw [qef] at m1 m2
  exact I0.sep _ _ _ _ _ (by omega) (by omega) m1 m2
 ·intro i j B hi hj m1 m2
  rw [List.length_map] at hi hj
  rw [qft] at m1 m2
  exact I0.sepm _ _ _ (by omega) (by omega) m1 m2

theorem Step.behind {g g0 : G} {σ σ0 : Store} {w w' : World} (I : Inv g σ w) (_I0 : Inv g0 σ0 w') (hs : w.heap.size ≤ w'.heap.size) (hold : ∀ b, b < w.heap.size → w'.heap[b]? = w.heap[b]?)
  (ht : w'.tape = w.tape) (ho : w'.os = w.os) (hp : w'.output = w.output)
  (hmu : ∀ loc h B, loc < g0.n → g0.mu loc h = some B → w.heap.size ≤ B) (hmp : ∀ loc B, loc < g0.n → g0.mp loc = some B → w.heap.size ≤ B) : Step g w (g.behind g0) w' := by
 refine Step.of_grow I (qmd g g0) (fun _ _ _ h => h) (by simp [G.behind]) hs hold ht ho hp (fun _ _ _ h => .inl h) ?_
 intro loc h b h1 h2 h3
 obtain ⟨k, rfl⟩ : ∃ k, loc = g.n + k := ⟨loc - g.n, by omega⟩
 have hk : k < g0.n := by simp only [G.behind] at h2; omega
 rw [qef, qft] at h3
 rcases h3 with h3 | h3
 ·exact hmu _ _ _ hk h3
 ·exact hmp _ _ hk h3

end Go.V

/- Calls: what 'vcall' gives is what the model's call gives. -/
namespace Go.V

theorem q3o {g : G} {σ : Store} {i : TI} {x v : V} {cx : Value} (hx : VR g x cx) (h : qbx σ i x = some v) : ∃ a, cx = .pointer (some a) := by
 unfold qbx at h
 split at h
 ·simp only [VR] at hx
  obtain ⟨_, _, a, rfl, _⟩ := hx
  exact ⟨a, rfl⟩
 ·simp only [VR, TR] at hx
  obtain ⟨a, rfl, _⟩ := hx
  exact ⟨a, rfl⟩
 ·cases h

def qvk (a : Act) : ResultVar → Sem Value
 | .tmp t => pure (a.tmps.getD t undef)
 | .cell b t => do loadVar t (← asAddr (a.tmps.getD b undef))

theorem qzc (fn : Func) (a : Act) : results fn a.tmps = (do
  let vs ← fn.results.mapM (qvk a)
  pure (if h : vs.size = 1 then vs[0] else .tuple vs)) := by
 unfold results
 congr 1

theorem qia {P : Program} {ty : TypeId → Option TI} (hty : ∀ t x, ty t = some x → tiOf P t = some x) {n : Nat} {A : Ann} {g : G} {σ : Store} {w : World} (I : Inv g σ w) {st : St} {a : Act} (R : StRel n A g st a) :
  ∀ (l : List ResultVar) (vs : List V), qbs ty st σ l = some vs → ∃ cvs, (l.mapM (qvk a)).run P w = Result.ok cvs w ∧ VRs g vs cvs
 | [], vs, h => by
  simp only [qbs, Option.some.injEq] at h
  subst h
  exact ⟨[], by simp, by simp [VRs]⟩
 | r :: l, vs, h => by
  simp only [qbs] at h
  split at h
  ·rename_i v vs' h1 h2
   cases h
   obtain ⟨cvs, q1, q2⟩ := qia hty I R l vs' h2
   cases r with
   | tmp t =>
    simp only [qji, Option.some.injEq] at h1
    subst h1
    refine ⟨a.tmps.getD t undef :: cvs, by simp [List.mapM_cons, qvk, q1], ?_⟩
    simp only [VRs]
    exact ⟨_, _, rfl, R.get t, q2⟩
   | cell b t =>
    simp only [qji] at h1
    cases ht : ty t with
    | none => simp [ht] at h1
    | some i =>
     rw [ht] at h1
     simp only at h1
     obtain ⟨cv, r1, r2⟩ := qns (hty _ _ ht) I (R.get b) h1
     obtain ⟨ad, had⟩ := q3o (R.get b) h1
     rw [had] at r1
     simp only [Instr.loadAt, Instr.sureAddr, Sem.run_bind] at r1
     refine ⟨cv :: cvs, ?_, by simp only [VRs]; exact ⟨_, _, rfl, r2, q2⟩⟩
     simp only [List.mapM_cons, qvk, had, asAddr, pure_bind, Sem.run_bind]
     have : (loadVar t ad).run P w = .ok cv w := by simpa using r1
     rw [this]
     simp [q1]
  ·cases h

theorem qjv {P : Program} {ty : TypeId → Option TI} (hty : ∀ t x, ty t = some x → tiOf P t = some x) {n : Nat} {A : Ann} {g : G} {σ : Store} {w : World} (I : Inv g σ w) {st : St} {a : Act} (R : StRel n A g st a) {fn : Func} {vs : List V} (h : qbs ty st σ fn.results.toList = some vs) :
  ∃ cv, (results fn a.tmps).run P w = .ok cv w ∧ VR g (qhq vs) cv := by
 obtain ⟨cvs, h1, h2⟩ := qia hty I R _ _ h
 have hm : ∀ f : ResultVar → Sem Value, fn.results.mapM f = (fun l => l.toArray) <$> fn.results.toList.mapM f := by
  intro f
  conv => lhs; rw [← Array.toArray_toList (xs := fn.results)]
  exact List.mapM_toArray
 have hrun : (results fn a.tmps).run P w = .ok (if h : cvs.toArray.size = 1 then cvs.toArray[0] else .tuple cvs.toArray) w := by
  rw [qzc, hm]
  simp only [Sem.run_bind, Sem.run_map]
  rw [h1]
  simp
 refine ⟨_, hrun, ?_⟩
 have hl := VRs.length h2
 unfold qhq
 split
 ·rename_i v
  simp only [VRs] at h2
  obtain ⟨cv, r, rfl, h3, rfl⟩ := h2
  simpa using h3
 ·rename_i hne
  have : cvs.toArray.size ≠ 1 := by
   intro hc
   simp only [List.size_toArray] at hc
   rw [hc] at hl
   obtain ⟨v, hv⟩ := List.length_eq_one_iff.1 hl
   exact hne v hv
  rw [dif_neg this]
  exact qvt (by simpa using h2)

/-! ### Freezing what a callee leaves -/
mutual
theorem qcq {g : G} {fz' : Nat → Nat → Option Value} {f : V → Option T} (hf : ∀ v x cv, f v = some x → VR g v cv → TR fz' x cv) : ∀ (vs : List V) (ts : List T) (l : List Value), frzs f vs = some ts → VRs g vs l → TRs fz' ts l
 | [], ts, l, h, hv => by
  simp only [frzs, Option.some.injEq] at h
  subst h
  simpa [TRs, VRs] using hv
 | v :: r, ts, l, h, hv => by
  simp only [frzs] at h
  split at h
  ·rename_i x xs h1 h2
   cases h
   simp only [VRs] at hv
   obtain ⟨cv, l', rfl, h3, h4⟩ := hv
   simp only [TRs]
   exact ⟨_, _, rfl, hf _ _ _ h1 h3, qcq hf r xs l' h2 h4⟩
  ·cases h
end

theorem qpb {f : V → Option T} : ∀ {vs : List V} {ts : List T}, frzs f vs = some ts → ts.length = vs.length ∧ ∀ (i : Nat) (x : T), ts[i]? = some x → ∃ v, vs[i]? = some v ∧ f v = some x
 | [], ts, h => by
  simp only [frzs, Option.some.injEq] at h
  subst h
  exact ⟨rfl, fun i x hx => by simp at hx⟩
 | v :: r, ts, h => by
  simp only [frzs] at h
  split at h
  ·rename_i x xs h1 h2
   cases h
   obtain ⟨h3, h4⟩ := qpb h2
   refine ⟨by simp [h3], fun i y hy => ?_⟩
   cases i with
   | zero => simp at hy; subst hy; exact ⟨v, rfl, h1⟩
   | succ i => simp at hy; simpa using h4 i y hy
  ·cases h

theorem qht {g : G} {σ : Store} {w' : World} (I : Inv g σ w') {fz' : Nat → Nat → Option Value} (hle : fzLe g.fz fz') (hnew : ∀ loc h B o v, loc < g.n → g.mu loc h = some B → w'.cell? ⟨B, o, none⟩ = some v → fz' B o = some v) :
  ∀ (d : Nat) (v : V) (x : T) (cv : Value), frz d σ v = some x → VR g v cv → TR fz' x cv := by
 intro d
 induction d with
 | zero => intro v x cv h; simp [frz] at h
 | succ d ih =>
  intro v x cv h hv
  cases v with
  | t y =>
   simp only [frz, Option.some.injEq] at h
   subst h
   simp only [VR] at hv
   exact TR.mono hle _ _ hv
  | agg cs =>
   simp only [frz, Option.map_eq_some_iff] at h
   obtain ⟨ts, h1, rfl⟩ := h
   simp only [VR] at hv
   obtain ⟨a, rfl, h2, h3⟩ := hv
   simp only [TR]
   exact ⟨a, rfl, qcq ih _ _ _ h1 h2, h3⟩
  | tup cs =>
   simp only [frz, Option.map_eq_some_iff] at h
   obtain ⟨ts, h1, rfl⟩ := h
   simp only [VR] at hv
   obtain ⟨a, rfl, h2⟩ := hv
   simp only [TR]
   exact ⟨a, rfl, qcq ih _ _ _ h1 h2⟩
  | sl loc gn off len k =>
   simp only [frz] at h
   split at h
   ·rename_i cs gen wgen hs
    split at h
    ·rename_i hc
     obtain ⟨c1, c2, c3, c4⟩ := hc
     simp only [Option.map_eq_some_iff] at h
     obtain ⟨ts, h1, rfl⟩ := h
     obtain ⟨hlen, hget⟩ := qpb h1
     simp only [VR] at hv
     obtain ⟨v1, v2, v3, a, c, rfl, v4, v5, v6⟩ := hv
     obtain ⟨B, arr, elem, fr, o1, o2, o3, o4, o5, o6⟩ := I.old loc cs gen wgen gn hs c1 c2
     obtain ⟨s1, s2⟩ := v6 B o1
     simp only [TR, qel]
     by_cases h0 : 0 < len
     ·obtain ⟨e1, e2, e3⟩ := s2 (.inl h0)
      have htl : ts.length = len * k := by
       rw [hlen]; simp only [List.length_take, List.length_drop]; omega
      refine ⟨a, c, k, rfl, v4, .inr v5, qgt len ts _ htl (TRcells.of_get fun i x hx => ?_)⟩
      obtain ⟨u, hu, hfu⟩ := hget i x hx
      have hi : i < len * k := by
       have : i < ts.length := by
        rcases Nat.lt_or_ge i ts.length with h | h
        ·exact h
        ·rw [List.getElem?_eq_none h] at hx; cases hx
       omega
      rw [List.getElem?_take, if_pos hi, List.getElem?_drop] at hu
      obtain ⟨cu, r1, r2, r3⟩ := o6 (off + i) u (by omega) hu
      refine ⟨cu, ?_, r2, ih _ _ _ hfu r3⟩
      rw [e1, e2]
      refine hnew loc gn B _ _ v1 o1 ?_
      simp [World.cell?, o2, r1]
     ·have : len = 0 := by omega
      subst this
      exact ⟨a, c, k, rfl, v4, .inr v5, by simp [chunk, TRrows]⟩
    ·cases h
   ·cases h
  | _ => simp [frz] at h

theorem qyo {g : G} {σ : Store} {w' : World} (I : Inv g σ w') {fz' : Nat → Nat → Option Value} (hnew : ∀ loc h B o v, loc < g.n → g.mu loc h = some B → w'.cell? ⟨B, o, none⟩ = some v → fz' B o = some v) :
  ∀ (d : Nat) (v : V) (x : T) (cv : Value), frzN d σ v = some x → VR g v cv → TR fz' x cv := by
 intro d
 induction d with
 | zero => intro v x cv h; simp [frzN] at h
 | succ d ih =>
  intro v x cv h hv
  cases v with
  | t y =>
   simp only [frzN] at h
   split at h
   ·rename_i hfl
    cases h
    simp only [VR] at hv
    exact qld _ _ hfl hv
   ·cases h
  | agg cs =>
   simp only [frzN, Option.map_eq_some_iff] at h
   obtain ⟨ts, h1, rfl⟩ := h
   simp only [VR] at hv
   obtain ⟨a, rfl, h2, h3⟩ := hv
   simp only [TR]
   exact ⟨a, rfl, qcq ih _ _ _ h1 h2, h3⟩
  | tup cs =>
   simp only [frzN, Option.map_eq_some_iff] at h
   obtain ⟨ts, h1, rfl⟩ := h
   simp only [VR] at hv
   obtain ⟨a, rfl, h2⟩ := hv
   simp only [TR]
   exact ⟨a, rfl, qcq ih _ _ _ h1 h2⟩
  | sl loc gn off len k =>
   simp only [frzN] at h
   split at h
   ·rename_i cs gen wgen hs
    split at h
    ·rename_i hc
     obtain ⟨c1, c2, c3, c4⟩ := hc
     simp only [Option.map_eq_some_iff] at h
     obtain ⟨ts, h1, rfl⟩ := h
     obtain ⟨hlen, hget⟩ := qpb h1
     simp only [VR] at hv
     obtain ⟨v1, v2, v3, a, c, rfl, v4, v5, v6⟩ := hv
     obtain ⟨B, arr, elem, fr, o1, o2, o3, o4, o5, o6⟩ := I.old loc cs gen wgen gn hs c1 c2
     obtain ⟨s1, s2⟩ := v6 B o1
     simp only [TR, qel]
     by_cases h0 : 0 < len
     ·obtain ⟨e1, e2, e3⟩ := s2 (.inl h0)
      have htl : ts.length = len * k := by
       rw [hlen]; simp only [List.length_take, List.length_drop]; omega
      refine ⟨a, c, k, rfl, v4, .inr v5, qgt len ts _ htl (TRcells.of_get fun i x hx => ?_)⟩
      obtain ⟨u, hu, hfu⟩ := hget i x hx
      have hi : i < len * k := by
       have : i < ts.length := by
        rcases Nat.lt_or_ge i ts.length with h | h
        ·exact h
        ·rw [List.getElem?_eq_none h] at hx; cases hx
       omega
      rw [List.getElem?_take, if_pos hi, List.getElem?_drop] at hu
      obtain ⟨cu, r1, r2, r3⟩ := o6 (off + i) u (by omega) hu
      refine ⟨cu, ?_, r2, ih _ _ _ hfu r3⟩
      rw [e1, e2]
      refine hnew loc gn B _ _ v1 o1 ?_
      simp [World.cell?, o2, r1]
     ·have : len = 0 := by omega
      subst this
      exact ⟨a, c, k, rfl, v4, .inr v5, by simp [chunk, TRrows]⟩
    ·cases h
   ·cases h
  | _ => simp [frzN] at h

/-! ### Calls -/
structure SysOk (S : Sy) : Prop where
 ty : ∀ t x, S.ty t = some x → tiOf S.P t = some x
 mixed : S.P.follows .mixedOrders = true
 fn : ∀ f A, S.ann f = some A → ∃ fn c, S.P.funcs[f]? = some fn ∧ fn.body = some c ∧ qdg S.ty S.pf A fn.ntmps c = true ∧ (fn.name == "runtime.NumGoroutine") = false
 ext : ∀ f args σ v σ', S.ann f = none → S.ext f args σ = some (v, σ') →
  (∃ fn, S.P.funcs[f]? = some fn ∧ fn.body.isNone = false ∧ (fn.name == "runtime.NumGoroutine") = false) ∧
  ∀ g w (cargs : Array Value), Inv g σ w → VRs g args cargs.toList →
    Calls S.P f cargs w fun e w' => ∃ cv g', e = .returned cv ∧ VR g' v cv ∧ Inv g' σ' w' ∧ Step g w g' w'
 extPure : qfv S.ext S.extPure

theorem qup {S : Sy} (ok : SysOk S) (vc : qbo) : qfv (qbj S vc) S.pf := by
 intro f args σ v σ' hp ha h
 unfold Sy.pf at hp
 unfold qbj at h ⊢
 cases hA : S.ann f with
 | some A =>
  rw [hA] at hp h
  simp only at hp h ⊢
  rw [if_pos hp] at h
  cases hT : allT args with
  | none => rw [hT] at ha; cases ha
  | some ts =>
   rw [hT] at h
   simp only at h
   split at h
   ·rename_i v0 σ0 h0
    simp only [Option.map_eq_some_iff, Prod.mk.injEq] at h
    obtain ⟨x, h1, rfl, rfl⟩ := h
    refine ⟨rfl, fun σ2 => ?_⟩
    rw [if_pos hp]
    simp only [h0, h1, Option.map_some]
   ·cases h
 | none =>
  rw [hA] at hp h
  simp only at hp h ⊢
  exact ok.extPure f args σ v σ' hp ha h

/-- The memory as a callee sees it that is handed nothing but trees: all that stood before is as if it were no one's. -/
def G.bare (g : G) : G := { fz := g.fz, n := 0, gn := fun _ => 0, mu := fun _ _ => none, sz := fun _ _ => 0, bs := fun _ _ => 0, mp := fun _ => none }

theorem Inv.bare {g : G} {σ : Store} {w : World} (I : Inv g σ w) : Inv g.bare [] w where
 len := rfl
 fz := I.fz
 cur := fun _ _ _ _ h => by simp at h
 tip := fun _ _ _ _ h => by simp at h
 old := fun _ _ _ _ _ h => by simp at h
 muc := fun _ _ _ h => absurd h (Nat.not_lt_zero _)
 map := fun _ _ h => by simp at h
 mpc := fun _ _ h => absurd h (Nat.not_lt_zero _)
 sep := fun _ _ _ _ _ h => absurd h (Nat.not_lt_zero _)
 sepm := fun _ _ _ h => absurd h (Nat.not_lt_zero _)

/-- The memory as a law finds it: all that stands is data that no one will write. -/
def G.of (W : World) : G := { fz := fun b o => W.cell? ⟨b, o, none⟩, n := 0, gn := fun _ => 0, mu := fun _ _ => none, sz := fun _ _ => 0, bs := fun _ _ => 0, mp := fun _ => none }

theorem Inv.of (W : World) : Inv (G.of W) [] W where
 len := rfl
 fz := fun _ _ _ h => h
 cur := fun _ _ _ _ h => by simp at h
 tip := fun _ _ _ _ h => by simp at h
 old := fun _ _ _ _ _ h => by simp at h
 muc := fun _ _ _ h => absurd h (Nat.not_lt_zero _)
 map := fun _ _ h => by simp at h
 mpc := fun _ _ h => absurd h (Nat.not_lt_zero _)
 sep := fun _ _ _ _ _ h => absurd h (Nat.not_lt_zero _)
 sepm := fun _ _ _ h => absurd h (Nat.not_lt_zero _)

theorem qrk {S : Sy} (ok : SysOk S) {vc : qbo} (hvc : qiv S.P vc) : qiv S.P (qbj S vc) := by
 intro f args σ v σ' h
 unfold qbj at h
 cases hA : S.ann f with
 | none =>
  rw [hA] at h
  exact ok.ext f args σ v σ' hA h
 | some A =>
  rw [hA] at h
  simp only at h
  split at h
  ·split at h
   ·rename_i ts hT
    split at h
    ·rename_i v0 σ0 h0
     simp only [Option.map_eq_some_iff, Prod.mk.injEq] at h
     obtain ⟨x, h1, rfl, rfl⟩ := h
     obtain ⟨q1, q2⟩ := hvc f args [] v0 σ0 h0
     refine ⟨q1, fun g w cargs I hargs => ?_⟩
     have hargs0 : VRs g.bare args cargs.toList := by
      rw [qcd hT] at hargs ⊢
      exact (qno (g := g.bare) _ _).2 ((qno (g := g) _ _).1 hargs)
     refine (q2 g.bare w cargs I.bare hargs0).mono fun e w' hh => ?_
     obtain ⟨cv, g0, rfl, r1, r2, r3⟩ := hh
     have hold : ∀ b, b < w.heap.size → w'.heap[b]? = w.heap[b]? := fun b hb => r3.ext.keep b hb (fun loc hl => absurd hl (Nat.not_lt_zero _))
     obtain ⟨I', S'⟩ := I.freezeNew (w' := w') r3.ext.size hold r3.ext.tape r3.ext.os r3.ext.output
     have hmu : ∀ loc h B, loc < g0.n → g0.mu loc h = some B → w.heap.size ≤ B := fun loc h B hl hm => by
      rcases Nat.lt_or_ge B w.heap.size with hb | hb
      ·exact absurd (r3.own loc h B hl hm hb).1 (Nat.not_lt_zero _)
      ·exact hb
     refine ⟨cv, _, rfl, ?_, I', S'⟩
     simp only [VR]
     refine qht r2 ?_ ?_ 40 v0 x cv h1 r1
     ·intro b o u hu
      rcases Nat.lt_or_ge b w.heap.size with hb | hb
      ·exact qge g w w' _ _ _ (r3.cold b o u hu hb)
      ·simp only [G.freezeNew]
       split
       ·rename_i u' hu'
        have := qcu (I.fz _ _ _ hu')
        omega
       ·rw [if_pos hb]; exact r2.fz _ _ _ hu
     ·intro loc h B o u hl hm hcell
      have hB := hmu loc h B hl hm
      simp only [G.freezeNew]
      split
      ·rename_i u' hu'
       have := qcu (I.fz _ _ _ hu')
       omega
      ·rw [if_pos hB]; exact hcell
    ·cases h
   ·split at h
    ·rename_i ts hT
     split at h
     ·rename_i v0 σ0 h0
      simp only [Option.map_eq_some_iff, Prod.mk.injEq] at h
      obtain ⟨x, h1, rfl, rfl⟩ := h
      obtain ⟨q1, q2⟩ := hvc f (ts.map V.t) [] v0 σ0 h0
      refine ⟨q1, fun g w cargs I hargs => ?_⟩
      have hle : fzLe g.fz (G.of w).fz := fun b o u hu => I.fz b o u hu
      have hargs0 : VRs (G.of w) (ts.map V.t) cargs.toList := (qno (g := G.of w) _ _).2 (qcq (fun v x cv h1 h2 => qht I hle (fun _ _ _ _ _ _ _ h => h) 40 v x cv h1 h2) _ _ _ hT hargs)
      refine (q2 (G.of w) w cargs (Inv.of w) hargs0).mono fun e w' hh => ?_
      obtain ⟨cv, g0, rfl, r1, r2, r3⟩ := hh
      have hold : ∀ b, b < w.heap.size → w'.heap[b]? = w.heap[b]? := fun b hb => r3.ext.keep b hb (fun loc hl => absurd hl (Nat.not_lt_zero _))
      obtain ⟨I', S'⟩ := I.freezeNew (w' := w') r3.ext.size hold r3.ext.tape r3.ext.os r3.ext.output
      have hmu : ∀ loc h B, loc < g0.n → g0.mu loc h = some B → w.heap.size ≤ B := fun loc h B hl hm => by
       rcases Nat.lt_or_ge B w.heap.size with hb | hb
       ·exact absurd (r3.own loc h B hl hm hb).1 (Nat.not_lt_zero _)
       ·exact hb
      refine ⟨cv, _, rfl, ?_, I', S'⟩
      simp only [VR]
      refine qyo r2 ?_ 40 v0 x cv h1 r1
      intro loc h B o u hl hm hcell
      have hB := hmu loc h B hl hm
      simp only [G.freezeNew]
      split
      ·rename_i u' hu'
       have := qcu (I.fz _ _ _ hu')
       omega
      ·rw [if_pos hB]; exact hcell
     ·cases h
    ·exact hvc f args σ v σ' h
  ·split at h
   ·split at h
    ·rename_i ts hT
     split at h
     ·rename_i v0 σ0 h0
      cases h
      obtain ⟨q1, q2⟩ := hvc f (ts.map V.t) [] v0 σ0 h0
      refine ⟨q1, fun g w cargs I hargs => ?_⟩
      have hle : fzLe g.fz (G.of w).fz := fun b o u hu => I.fz b o u hu
      have hargs0 : VRs (G.of w) (ts.map V.t) cargs.toList := (qno (g := G.of w) _ _).2 (qcq (fun v x cv h1 h2 => qht I hle (fun _ _ _ _ _ _ _ h => h) 40 v x cv h1 h2) _ _ _ hT hargs)
      refine (q2 (G.of w) w cargs (Inv.of w) hargs0).mono fun e w' hh => ?_
      obtain ⟨cv, g0, rfl, r1, r2, r3⟩ := hh
      have hold : ∀ b, b < w.heap.size → w'.heap[b]? = w.heap[b]? := fun b hb => r3.ext.keep b hb (fun loc hl => absurd hl (Nat.not_lt_zero _))
      have hmu : ∀ loc h B, loc < g0.n → g0.mu loc h = some B → w.heap.size ≤ B := fun loc h B hl hm => by
       rcases Nat.lt_or_ge B w.heap.size with hb | hb
       ·exact absurd (r3.own loc h B hl hm hb).1 (Nat.not_lt_zero _)
       ·exact hb
      have hmp : ∀ loc B, loc < g0.n → g0.mp loc = some B → w.heap.size ≤ B := fun loc B hl hm => by
       rcases Nat.lt_or_ge B w.heap.size with hb | hb
       ·exact absurd (r3.tips loc B hl (.inr hm) hb).1 (Nat.not_lt_zero _)
       ·exact hb
      have hb := I.behind r2 hold hmu hmp
      rw [← I.len]
      exact ⟨cv, g.behind g0, rfl, sh_VR v0 cv r1, hb, Step.behind I r2 r3.ext.size hold r3.ext.tape r3.ext.os r3.ext.output hmu hmp⟩
     ·cases h
    ·cases h
   ·exact hvc f args σ v σ' h

theorem qem (A : Ann) : ∀ (args : List V) (i t : Nat), (qcl A i args).find t = if A.vars.contains t = true ∧ i ≤ t then args[t - i]? else none
 | [], i, t => by simp [qcl, Env.find]
 | v :: r, i, t => by
  simp only [qcl]
  by_cases hi : A.vars.contains i = true
  ·rw [if_pos hi]
   simp only [Env.find]
   by_cases ht : i = t
   ·subst ht
    rw [if_pos rfl, if_pos ⟨hi, Nat.le_refl _⟩]; simp
   ·rw [if_neg ht, qem A r (i + 1) t]
    by_cases h2 : A.vars.contains t = true ∧ i + 1 ≤ t
    ·rw [if_pos h2, if_pos ⟨h2.1, by omega⟩]
     rw [show t - i = (t - (i + 1)) + 1 by omega]; rfl
    ·rw [if_neg h2, if_neg (fun h => h2 ⟨h.1, by omega⟩)]
  ·rw [if_neg hi, qem A r (i + 1) t]
   by_cases h2 : A.vars.contains t = true ∧ i + 1 ≤ t
   ·rw [if_pos h2, if_pos ⟨h2.1, by omega⟩]
    rw [show t - i = (t - (i + 1)) + 1 by omega]; rfl
   ·rw [if_neg h2]
    by_cases h3 : A.vars.contains t = true ∧ i ≤ t
    ·have : i = t := by
      rcases Nat.lt_or_ge i t with h | h
      ·exact absurd ⟨h3.1, h⟩ h2
      ·omega
     subst this
     exact absurd h3.1 hi
    ·rw [if_neg h3]

theorem qtz {S : Sy} (ok : SysOk S) : ∀ fuel, qiv S.P (qcx S fuel) := by
 intro fuel
 induction fuel with
 | zero => intro f args σ v σ' h; simp [qcx] at h
 | succ fuel ih =>
  intro f args σ v σ' h
  have hdc := qrk ok ih
  have hpd := qup ok (qcx S fuel)
  simp only [qcx] at h
  split at h
  ·rename_i A fn hA hfn
   obtain ⟨fn', c, e1, e2, e3, e4⟩ := ok.fn f A hA
   rw [hfn] at e1
   cases e1
   rw [e2] at h
   simp only at h
   refine ⟨⟨fn, hfn, by rw [e2]; rfl, e4⟩, fun g w cargs I hargs => ?_⟩
   have hl := VRs.length hargs
   have body : ∀ ex st σ1, runC (qbj S (qcx S fuel)) S.pf S.ty A fuel c { vars := qcl A 0 args, scr := [] } σ = some (ex, st, σ1) → (ex = .normal ∨ ex = .ret) → ∀ vs, qbs S.ty st σ1 fn.results.toList = some vs →
     Calls S.P f cargs w fun e w' => ∃ cv g', e = .returned cv ∧ VR g' (qhq vs) cv ∧ Inv g' σ1 w' ∧ Step g w g' w' := by
    intro ex st σ1 hr hex vs hvs
    refine calls_of_wp hfn e2 ?_
    refine (qzo hdc ok.mixed hpd ok.ty fuel).1 c _ σ ex st σ1 e3 hr _ g _ w I ⟨?_, ?_, ?_, ?_, rfl⟩ ?_
    ·intro t
     simp only [St.get, Env.find, qem]
     by_cases hc : A.vars.contains t = true ∧ 0 ≤ t
     ·rw [if_pos hc, Nat.sub_zero]
      cases ha : args[t]? with
      | none => simp [VR, TR]
      | some x =>
       obtain ⟨cv, r1, r2⟩ := VRs.get hargs t x ha
       have : (cargs ++ Array.replicate (fn.ntmps - cargs.size) undef).getD t undef = cv := by
        have r3 : cargs[t]? = some cv := by simpa using r1
        have r4 := lt_of_some r3
        rw [Array.getD_eq_getD_getElem?, Array.getElem?_append_left r4, r3]
        rfl
       rw [this]
       exact r2
     ·rw [if_neg hc]; simp [VR, TR]
    ·simp only [Array.size_append, Array.size_replicate]; omega
    ·intro t v h; simp [Env.find] at h
    ·intro t v h
     simp only [qem] at h
     split at h
     ·rename_i hc; exact hc.1
     ·cases h
    ·intro g' a' w' I' R' S'
     obtain ⟨cv, r1, r2⟩ := qjv ok.ty I' R' hvs
     rcases hex with rfl | rfl
     ·exact ⟨R'.defers, cv, r1, cv, g', rfl, r2, I', S'⟩
     ·exact ⟨R'.defers, cv, r1, cv, g', rfl, r2, I', S'⟩
   split at h
   ·rename_i st σ1 hr
    simp only [Option.map_eq_some_iff, Prod.mk.injEq] at h
    obtain ⟨vs, h1, rfl, rfl⟩ := h
    exact body _ _ _ hr (.inl rfl) vs h1
   ·rename_i st σ1 hr
    simp only [Option.map_eq_some_iff, Prod.mk.injEq] at h
    obtain ⟨vs, h1, rfl, rfl⟩ := h
    exact body _ _ _ hr (.inr rfl) vs h1
   ·cases h
  ·cases h

end Go.V

/- The limit of the interpreter in its fuel: equations without fuel. -/
namespace Go.V

def CallLe (c d : qbo) : Prop := ∀ f args σ r, c f args σ = some r → d f args σ = some r

theorem opV_mono {c d : qbo} (h : CallLe c d) {pf : FuncId → Bool} {ty : TypeId → Option TI} {owned draw : Bool} {op : Op} {ρ : Operand → V} {σ : Store} {r : V × Store} (hr : opV c pf ty owned draw op ρ σ = some r) : opV d pf ty owned draw op ρ σ = some r := by
 unfold opV at hr ⊢
 split at hr
 ·rename_i f args hcal
  split at hr
  ·split at hr
   ·rename_i hp
    rw [if_pos hp]
    split at hr
    ·rename_i ts hT;  exact h _ _ _ _ hr
    ·cases hr
   ·rename_i hp
    rw [if_neg hp]
    exact h _ _ _ _ hr
  ·split at hr
   ·rename_i hp
    rw [if_pos hp]
    split at hr
    ·rename_i ts hT;  exact h _ _ _ _ hr
    ·cases hr
   ·rename_i hp
    rw [if_neg hp]
    exact h _ _ _ _ hr
  ·cases hr
 ·exact hr

theorem qgk {c d : qbo} (h : CallLe c d) {pf : FuncId → Bool} {ty : TypeId → Option TI} {A : Ann} {id : Nat} {draw : Bool} {ops : Array Oper} {i : Nat} {o : Oper} {st : St} {σ : Store} {r : St × Store} (hr : qcw c pf ty A id draw ops i o st σ = some r) : qcw d pf ty A id draw ops i o st σ = some r := by
 unfold qcw at hr ⊢
 split at hr
 ·try simp only
  split at hr
  ·rename_i v σ' ho
   rw [opV_mono h ho]
   exact hr
  ·cases hr
 ·exact hr
 ·cases hr

theorem qhd {c d : qbo} (h : CallLe c d) {pf : FuncId → Bool} {ty : TypeId → Option TI} {A : Ann} {id : Nat} {draw : Bool} {ops : Array Oper} : ∀ (l : List Oper) (i : Nat) (st : St) (σ : Store) (r : St × Store), qby c pf ty A id draw ops i l st σ = some r → qby d pf ty A id draw ops i l st σ = some r
 | [], _, _, _, _, hr => hr
 | o :: l, i, st, σ, r, hr => by
  simp only [qby] at hr ⊢
  split at hr
  ·rename_i st1 σ1 h1
   rw [qgk h h1]
   exact qhd h l _ _ _ _ hr
  ·cases hr

theorem qdm {c d : qbo} (h : CallLe c d) {pf : FuncId → Bool} {ty : TypeId → Option TI} {A : Ann} {id : Nat} {ops : Array Oper} {b : Array Nat} : ∀ (l : List Oper) (i : Nat) (st : St) (σ : Store) (hs : List (Nat × Store)) (ls : Lds) (r : St × Store), qbd c pf ty A id ops b i l st σ hs ls = some r → qbd d pf ty A id ops b i l st σ hs ls = some r
 | [], _, _, _, _, _, _, hr => hr
 | o :: l, i, st, σ, hs, ls, r, hr => by
  simp only [qbd] at hr ⊢
  split at hr
  ·rename_i st1 σ1 h1
   rw [qgk h h1]
   simp only
   split at hr
   ·split at hr
    ·split at hr
     ·rename_i q; (first | simp only [q] | skip); exact qdm h l _ _ _ _ _ _ hr
     ·cases hr
    ·cases hr
   ·split at hr
    ·split at hr
     ·rename_i q; (first | simp only [q] | skip); exact qdm h l _ _ _ _ _ _ hr
     ·cases hr
    ·exact qdm h l _ _ _ _ _ _ hr
  ·cases hr

theorem qtk {c d : qbo} (h : CallLe c d) {pf : FuncId → Bool} {ty : TypeId → Option TI} {A : Ann} {id : Nat} {draw : Bool} {ops : Array Oper} {st : St} {σ : Store} {r : St × Store} (hr : qcy c pf ty A id draw ops st σ = some r) : qcy d pf ty A id draw ops st σ = some r := by
 unfold qcy at hr ⊢
 split at hr
 ·cases hr
 ·rename_i q1
  rw [if_neg q1]
  split at hr
  ·rename_i q2
   rw [if_pos q2]
   exact qdm h _ _ _ _ _ _ _ hr
  ·rename_i q2
   rw [if_neg q2]
   exact qhd h _ _ _ _ _ hr

theorem qdh {c d : qbo} (h : CallLe c d) {pf : FuncId → Bool} {ty : TypeId → Option TI} {A : Ann} : ∀ (n m : Nat), n ≤ m → ∀ (x : Code) (st : St) (σ : Store) (r : Ex × St × Store), runC c pf ty A n x st σ = some r → runC d pf ty A m x st σ = some r := by
 intro n
 induction n with
 | zero => intro m _ x st σ r hr; simp [runC] at hr
 | succ n ih =>
  intro m hm x st σ r hr
  obtain ⟨m, rfl⟩ : ∃ k, m = k + 1 := ⟨m - 1, by omega⟩
  have hm' : n ≤ m := by omega
  cases x with
  | skip => exact hr
  | region id ops draw =>
   simp only [runC, Option.map_eq_some_iff] at hr ⊢
   obtain ⟨q, h1, h2⟩ := hr
   exact ⟨q, qtk h h1, h2⟩
  | seq a b =>
   simp only [runC] at hr ⊢
   split at hr
   ·rename_i st1 σ1 h1
    rw [ih m hm' a st σ _ h1]
    exact ih m hm' b st1 σ1 r hr
   ·rename_i hne
    rw [ih m hm' a st σ _ hr]
    split
    ·rename_i st1 σ1 e
     cases e
     exact (hne _ _ hr).elim
    ·rfl
  | cond k a b =>
   simp only [runC] at hr ⊢
   split at hr
   ·exact ih m hm' a st σ r hr
   ·exact ih m hm' b st σ r hr
   ·cases hr
  | block id b =>
   simp only [runC] at hr ⊢
   split at hr
   ·rename_i st1 σ1 h1
    rw [ih m hm' b st σ _ h1]; exact hr
   ·rename_i id' st1 σ1 h1
    rw [ih m hm' b st σ _ h1]; exact hr
   ·rename_i h1 h2
    rw [ih m hm' b st σ _ hr]
    split
    ·rename_i st1 σ1 e; cases e; exact (h1 _ _ hr).elim
    ·rename_i id' st1 σ1 e; cases e; exact (h2 _ _ _ hr).elim
    ·rfl
  | loop b =>
   simp only [runC] at hr ⊢
   split at hr
   ·rename_i st1 σ1 h1
    rw [ih m hm' b st σ _ h1]
    exact ih m hm' (.loop b) st1 σ1 r hr
   ·rename_i hne
    rw [ih m hm' b st σ _ hr]
    split
    ·rename_i st1 σ1 e
     cases e
     exact (hne _ _ hr).elim
    ·rfl
  | exit id => exact hr
  | ret => exact hr
  | _ => simp [runC] at hr

theorem qna {S : Sy} {c d : qbo} (h : CallLe c d) : CallLe (qbj S c) (qbj S d) := by
 intro f args σ r hr
 unfold qbj at hr ⊢
 split at hr
 ·try simp only
  split at hr
  ·rename_i hp
   rw [if_pos hp]
   split at hr
   ·split at hr
    ·rename_i v σ0 h0
     rw [h _ _ _ _ h0]
     exact hr
    ·cases hr
   ·split at hr
    ·split at hr
     ·rename_i x σ0 h0
      rw [h _ _ _ _ h0]
      exact hr
     ·cases hr
    ·exact h _ _ _ _ hr
  ·rename_i hp
   rw [if_neg hp]
   split at hr
   ·rename_i hq
    rw [if_pos hq]
    split at hr
    ·split at hr
     ·rename_i v σ0 h0
      rw [h _ _ _ _ h0]
      exact hr
     ·cases hr
    ·cases hr
   ·rename_i hq
    rw [if_neg hq]
    exact h _ _ _ _ hr
 ·exact hr

theorem qja {S : Sy} : ∀ (n m : Nat), n ≤ m → CallLe (qcx S n) (qcx S m) := by
 intro n
 induction n with
 | zero => intro m _ f args σ r hr; simp [qcx] at hr
 | succ n ih =>
  intro m hm f args σ r hr
  obtain ⟨m, rfl⟩ : ∃ k, m = k + 1 := ⟨m - 1, by omega⟩
  have hm' : n ≤ m := by omega
  have hle := qna (S := S) (ih m hm')
  simp only [qcx] at hr ⊢
  split at hr
  ·rename_i A fn hA hfn
   split at hr
   ·rename_i c hb
    split at hr
    ·rename_i st σ' h1
     rw [qdh hle n m hm' _ _ _ _ h1]; exact hr
    ·rename_i st σ' h1
     rw [qdh hle n m hm' _ _ _ _ h1]; exact hr
    ·cases hr
   ·cases hr
  ·cases hr

open Classical in
/-- What a call gives, at any fuel that serves. -/
noncomputable def LV (S : Sy) : qbo := fun f args σ => if h : ∃ r n, qcx S n f args σ = some r then some h.choose else none

theorem q2m {S : Sy} {f : FuncId} {args : List V} {σ : Store} {r : V × Store} : LV S f args σ = some r ↔ ∃ n, qcx S n f args σ = some r := by
 unfold LV
 constructor
 ·intro h
  split at h
  ·rename_i hx
   cases h
   exact hx.choose_spec
  ·cases h
 ·rintro ⟨n, hn⟩
  have hx : ∃ r n, qcx S n f args σ = some r := ⟨r, n, hn⟩
  rw [dif_pos hx]
  obtain ⟨m, hm⟩ := hx.choose_spec
  have h1 := qja n (max n m) (Nat.le_max_left _ _) _ _ _ _ hn
  have h2 := qja m (max n m) (Nat.le_max_right _ _) _ _ _ _ hm
  rw [h1] at h2
  exact h2.symm

/-- A call of the limit, finitely far. -/
theorem qvr {S : Sy} {f : FuncId} {args : List V} {σ : Store} {r : V × Store} (h : qbj S (LV S) f args σ = some r) : ∃ n, qbj S (qcx S n) f args σ = some r := by
 have key : ∀ f args σ r, LV S f args σ = some r → ∃ n, qcx S n f args σ = some r := fun _ _ _ _ h => q2m.1 h
 unfold qbj at h ⊢
 split at h
 ·try simp only
  split at h
  ·rename_i hp
   simp only [if_pos hp]
   split at h
   ·split at h
    ·rename_i v σ0 h0
     obtain ⟨n, hn⟩ := key _ _ _ _ h0
     exact ⟨n, by rw [hn]; exact h⟩
    ·cases h
   ·split at h
    ·split at h
     ·rename_i x σ0 h0
      obtain ⟨n, hn⟩ := key _ _ _ _ h0
      exact ⟨n, by rw [hn]; exact h⟩
     ·cases h
    ·exact key _ _ _ _ h
  ·rename_i hp
   simp only [if_neg hp]
   split at h
   ·rename_i hq
    simp only [if_pos hq]
    split at h
    ·split at h
     ·rename_i v σ0 h0
      obtain ⟨n, hn⟩ := key _ _ _ _ h0
      exact ⟨n, by rw [hn]; exact h⟩
     ·cases h
    ·cases h
   ·rename_i hq
    simp only [if_neg hq]
    exact key _ _ _ _ h
 ·exact ⟨0, h⟩

noncomputable def LD (S : Sy) : qbo := qbj S (LV S)

theorem qzm {S : Sy} {n m : Nat} (h : n ≤ m) : CallLe (qbj S (qcx S n)) (qbj S (qcx S m)) := qna (qja n m h)

theorem opV_fin {S : Sy} {pf : FuncId → Bool} {ty : TypeId → Option TI} {owned draw : Bool} {op : Op} {ρ : Operand → V} {σ : Store} {r : V × Store} (hr : opV (LD S) pf ty owned draw op ρ σ = some r) : ∃ n, opV (qbj S (qcx S n)) pf ty owned draw op ρ σ = some r := by
 unfold opV at hr ⊢
 split at hr
 ·try simp only
  split at hr
  ·split at hr
   ·rename_i hp
    simp only [if_pos hp]
    split at hr
    · exact qvr hr
    ·cases hr
   ·rename_i hp
    simp only [if_neg hp]
    exact qvr hr
  ·split at hr
   ·rename_i hp
    simp only [if_pos hp]
    split at hr
    · exact qvr hr
    ·cases hr
   ·rename_i hp
    simp only [if_neg hp]
    exact qvr hr
  ·cases hr
 ·exact ⟨0, hr⟩

theorem qrx {S : Sy} {pf : FuncId → Bool} {ty : TypeId → Option TI} {A : Ann} {id : Nat} {draw : Bool} {ops : Array Oper} {i : Nat} {o : Oper} {st : St} {σ : Store} {r : St × Store} (hr : qcw (LD S) pf ty A id draw ops i o st σ = some r) : ∃ n, qcw (qbj S (qcx S n)) pf ty A id draw ops i o st σ = some r := by
 unfold qcw at hr ⊢
 split at hr
 ·try simp only
  split at hr
  ·rename_i v σ' ho
   obtain ⟨n, hn⟩ := opV_fin ho
   exact ⟨n, by rw [hn]; exact hr⟩
  ·cases hr
 ·exact ⟨0, hr⟩
 ·cases hr

theorem qor {S : Sy} {pf : FuncId → Bool} {ty : TypeId → Option TI} {A : Ann} {id : Nat} {draw : Bool} {ops : Array Oper} : ∀ (l : List Oper) (i : Nat) (st : St) (σ : Store) (r : St × Store), qby (LD S) pf ty A id draw ops i l st σ = some r → ∃ n, qby (qbj S (qcx S n)) pf ty A id draw ops i l st σ = some r
 | [], _, _, _, _, hr => ⟨0, hr⟩
 | o :: l, i, st, σ, r, hr => by
  simp only [qby] at hr ⊢
  split at hr
  ·rename_i st1 σ1 h1
   obtain ⟨n, hn⟩ := qrx h1
   obtain ⟨m, hm⟩ := qor l _ _ _ _ hr
   refine ⟨max n m, ?_⟩
   rw [qgk (qzm (Nat.le_max_left n m)) hn]
   exact qhd (qzm (Nat.le_max_right n m)) l _ _ _ _ hm
  ·cases hr

theorem qnd {S : Sy} {pf : FuncId → Bool} {ty : TypeId → Option TI} {A : Ann} {id : Nat} {ops : Array Oper} {b : Array Nat} : ∀ (l : List Oper) (i : Nat) (st : St) (σ : Store) (hs : List (Nat × Store)) (ls : Lds) (r : St × Store), qbd (LD S) pf ty A id ops b i l st σ hs ls = some r → ∃ n, qbd (qbj S (qcx S n)) pf ty A id ops b i l st σ hs ls = some r
 | [], _, _, _, _, _, _, hr => ⟨0, hr⟩
 | o :: l, i, st, σ, hs, ls, r, hr => by
  simp only [qbd] at hr ⊢
  split at hr
  ·rename_i st1 σ1 h1
   obtain ⟨n, hn⟩ := qrx h1
   have go : ∀ hs' ls', qbd (LD S) pf ty A id ops b (i + 1) l st1 σ1 hs' ls' = some r → ∃ m, n ≤ m ∧ qcw (qbj S (qcx S m)) pf ty A id true ops i o st σ = some (st1, σ1) ∧ qbd (qbj S (qcx S m)) pf ty A id ops b (i + 1) l st1 σ1 hs' ls' = some r := by
    intro hs' ls' hh
    obtain ⟨m, hm⟩ := qnd l _ _ _ _ _ _ hh
    exact ⟨max n m, Nat.le_max_left n m, qgk (qzm (Nat.le_max_left n m)) hn, qdm (qzm (Nat.le_max_right n m)) l _ _ _ _ _ _ hm⟩
   split at hr
   ·rename_i ti x hlo
    split at hr
    ·rename_i v hlv
     split at hr
     ·rename_i q
      obtain ⟨m, _, h2, h3⟩ := go _ _ hr
      exact ⟨m, by simp only [h2, hlo, hlv, q]; exact h3⟩
     ·cases hr
    ·cases hr
   ·rename_i hlo
    split at hr
    ·rename_i hc
     split at hr
     ·rename_i q
      obtain ⟨m, _, h2, h3⟩ := go _ _ hr
      exact ⟨m, by simp only [h2, hlo, hc, q]; exact h3⟩
     ·cases hr
    ·rename_i hc
     obtain ⟨m, _, h2, h3⟩ := go _ _ hr
     exact ⟨m, by simp only [h2, hlo, hc]; exact h3⟩
  ·cases hr

theorem qxv {S : Sy} {pf : FuncId → Bool} {ty : TypeId → Option TI} {A : Ann} {id : Nat} {draw : Bool} {ops : Array Oper} {st : St} {σ : Store} {r : St × Store} (hr : qcy (LD S) pf ty A id draw ops st σ = some r) : ∃ n, qcy (qbj S (qcx S n)) pf ty A id draw ops st σ = some r := by
 unfold qcy at hr ⊢
 split at hr
 ·cases hr
 ·rename_i q1
  simp only [q1]
  split at hr
  ·rename_i q2
   simp only [q2]
   obtain ⟨n, hn⟩ := qnd _ _ _ _ _ _ _ hr
   exact ⟨n, by simpa using hn⟩
  ·rename_i q2
   simp only [q2]
   obtain ⟨n, hn⟩ := qor _ _ _ _ _ hr
   exact ⟨n, by simpa using hn⟩

theorem runC_fin {S : Sy} {pf : FuncId → Bool} {ty : TypeId → Option TI} {A : Ann} : ∀ (k : Nat) (x : Code) (st : St) (σ : Store) (r : Ex × St × Store), runC (LD S) pf ty A k x st σ = some r → ∃ n, runC (qbj S (qcx S n)) pf ty A k x st σ = some r := by
 intro k
 induction k with
 | zero => intro x st σ r hr; simp [runC] at hr
 | succ k ih =>
  intro x st σ r hr
  have up : ∀ {n m : Nat} {y st σ q}, n ≤ m → runC (qbj S (qcx S n)) pf ty A k y st σ = some q → runC (qbj S (qcx S m)) pf ty A k y st σ = some q := fun h hq => qdh (qzm h) k k (Nat.le_refl _) _ _ _ _ hq
  cases x with
  | skip => exact ⟨0, hr⟩
  | region id ops draw =>
   simp only [runC, Option.map_eq_some_iff] at hr ⊢
   obtain ⟨q, h1, h2⟩ := hr
   obtain ⟨n, hn⟩ := qxv h1
   exact ⟨n, q, hn, h2⟩
  | seq a b =>
   simp only [runC] at hr ⊢
   split at hr
   ·rename_i st1 σ1 h1
    obtain ⟨n, hn⟩ := ih a st σ _ h1
    obtain ⟨m, hm⟩ := ih b st1 σ1 r hr
    exact ⟨max n m, by rw [up (Nat.le_max_left n m) hn]; exact up (Nat.le_max_right n m) hm⟩
   ·rename_i hne
    obtain ⟨n, hn⟩ := ih a st σ _ hr
    refine ⟨n, ?_⟩
    rw [hn]
    split
    ·rename_i st1 σ1 e
     cases e
     exact (hne _ _ hr).elim
    ·rfl
  | cond c a b =>
   simp only [runC] at hr ⊢
   split at hr
   ·exact ih a st σ r hr
   ·exact ih b st σ r hr
   ·cases hr
  | block id b =>
   simp only [runC] at hr ⊢
   split at hr
   ·rename_i st1 σ1 h1
    obtain ⟨n, hn⟩ := ih b st σ _ h1
    exact ⟨n, by rw [hn]; exact hr⟩
   ·rename_i id' st1 σ1 h1
    obtain ⟨n, hn⟩ := ih b st σ _ h1
    exact ⟨n, by rw [hn]; exact hr⟩
   ·rename_i h1 h2
    obtain ⟨n, hn⟩ := ih b st σ _ hr
    refine ⟨n, ?_⟩
    rw [hn]
    split
    ·rename_i st1 σ1 e; cases e; exact (h1 _ _ hr).elim
    ·rename_i id' st1 σ1 e; cases e; exact (h2 _ _ _ hr).elim
    ·rfl
  | loop b =>
   simp only [runC] at hr ⊢
   split at hr
   ·rename_i st1 σ1 h1
    obtain ⟨n, hn⟩ := ih b st σ _ h1
    obtain ⟨m, hm⟩ := ih (.loop b) st1 σ1 r hr
    exact ⟨max n m, by rw [up (Nat.le_max_left n m) hn]; exact up (Nat.le_max_right n m) hm⟩
   ·rename_i hne
    obtain ⟨n, hn⟩ := ih b st σ _ hr
    refine ⟨n, ?_⟩
    rw [hn]
    split
    ·rename_i st1 σ1 e
     cases e
     exact (hne _ _ hr).elim
    ·rfl
  | exit id => exact ⟨0, hr⟩
  | ret => exact ⟨0, hr⟩
  | _ => simp [runC] at hr

/-! ### Code: what holds of what it leaves -/
/-- The code ends, and Q holds of how and with what. -/
def W (S : Sy) (A : Ann) (c : Code) (Q : Ex → St → Store → Prop) (st : St) (σ : Store) : Prop := ∃ n ex st' σ', runC (LD S) S.pf S.ty A n c st σ = some (ex, st', σ') ∧ Q ex st' σ'

theorem W.mono {S : Sy} {A : Ann} {c : Code} {Q Q' : Ex → St → Store → Prop} {st : St} {σ : Store} (h : W S A c Q st σ) (hq : ∀ e s τ, Q e s τ → Q' e s τ) : W S A c Q' st σ := by
 obtain ⟨n, ex, st', σ', h1, h2⟩ := h
 exact ⟨n, ex, st', σ', h1, hq _ _ _ h2⟩

def qjf (K : St → Store → Prop) (Q : Ex → St → Store → Prop) : Ex → St → Store → Prop
 | .normal, st, σ => K st σ
 | e, st, σ => Q e st σ

theorem CallLe.refl (c : qbo) : CallLe c c := fun _ _ _ _ h => h

theorem qaw {S : Sy} {A : Ann} {a b : Code} {Q : Ex → St → Store → Prop} {st : St} {σ : Store} (h : W S A a (qjf (W S A b Q) Q) st σ) : W S A (.seq a b) Q st σ := by
 obtain ⟨n, ex, st', σ', h1, h2⟩ := h
 cases ex with
 | normal =>
  obtain ⟨m, ex2, st2, σ2, h3, h4⟩ := h2
  refine ⟨max n m + 1, ex2, st2, σ2, ?_, h4⟩
  simp only [runC]
  rw [qdh (CallLe.refl _) n (max n m) (Nat.le_max_left _ _) _ _ _ _ h1]
  exact qdh (CallLe.refl _) m (max n m) (Nat.le_max_right _ _) _ _ _ _ h3
 | exit id => exact ⟨n + 1, _, st', σ', by simp only [runC]; rw [h1], h2⟩
 | ret => exact ⟨n + 1, _, st', σ', by simp only [runC]; rw [h1], h2⟩

theorem wK {S : Sy} {A : Ann} {Q : Ex → St → Store → Prop} {st : St} {σ : Store} (h : Q .normal st σ) : W S A .skip Q st σ := ⟨1, _, _, _, rfl, h⟩
theorem qal {S : Sy} {A : Ann} {id : Nat} {Q : Ex → St → Store → Prop} {st : St} {σ : Store} (h : Q (.exit id) st σ) : W S A (.exit id) Q st σ := ⟨1, _, _, _, rfl, h⟩
theorem wX {S : Sy} {A : Ann} {Q : Ex → St → Store → Prop} {st : St} {σ : Store} (h : Q .ret st σ) : W S A .ret Q st σ := ⟨1, _, _, _, rfl, h⟩

theorem qpp {S : Sy} {A : Ann} {id : Nat} {ops : Array Oper} {draw : Bool} {Q : Ex → St → Store → Prop} {st st' : St} {σ σ' : Store} (h : qcy (LD S) S.pf S.ty A id draw ops { st with scr := [] } σ = some (st', σ')) (hq : Q .normal st' σ') : W S A (.region id ops draw) Q st σ :=
 ⟨1, _, _, _, by simp only [runC]; rw [h]; rfl, hq⟩

theorem qwr {S : Sy} {A : Ann} {c : Operand} {a b : Code} {Q : Ex → St → Store → Prop} {st : St} {σ : Store} {t : Bool} (hc : st.eval c = .t (.bool t)) (h : W S A (if t then a else b) Q st σ) : W S A (.cond c a b) Q st σ := by
 obtain ⟨n, ex, st', σ', h1, h2⟩ := h
 refine ⟨n + 1, ex, st', σ', ?_, h2⟩
 simp only [runC, hc]
 cases t <;> exact h1

def qfz (A : Ann) (id : Nat) (Q : Ex → St → Store → Prop) : Ex → St → Store → Prop
 | .normal, st, σ => Q .normal (A.kill id st) σ
 | .exit id', st, σ => if id' = id then Q .normal (A.kill id st) σ else Q (.exit id') st σ
 | .ret, st, σ => Q .ret st σ

theorem q2h {S : Sy} {A : Ann} {id : Nat} {b : Code} {Q : Ex → St → Store → Prop} {st : St} {σ : Store} (h : W S A b (qfz A id Q) st σ) : W S A (.block id b) Q st σ := by
 obtain ⟨n, ex, st', σ', h1, h2⟩ := h
 cases ex with
 | normal => exact ⟨n + 1, _, _, σ', by simp only [runC]; rw [h1], h2⟩
 | exit id' =>
  simp only [qfz] at h2
  split at h2
  ·rename_i he; exact ⟨n + 1, _, _, σ', by simp only [runC]; rw [h1]; simp only [if_pos he], h2⟩
  ·rename_i he; exact ⟨n + 1, _, _, σ', by simp only [runC]; rw [h1]; simp only [if_neg he], h2⟩
 | ret => exact ⟨n + 1, _, _, σ', by simp only [runC]; rw [h1], h2⟩

theorem qay {S : Sy} {A : Ann} {b : Code} {Q : Ex → St → Store → Prop} {st : St} {σ : Store} (h : W S A b (qjf (W S A (.loop b) Q) Q) st σ) : W S A (.loop b) Q st σ := by
 obtain ⟨n, ex, st', σ', h1, h2⟩ := h
 cases ex with
 | normal =>
  obtain ⟨m, ex2, st2, σ2, h3, h4⟩ := h2
  refine ⟨max n m + 1, ex2, st2, σ2, ?_, h4⟩
  simp only [runC]
  rw [qdh (CallLe.refl _) n (max n m) (Nat.le_max_left _ _) _ _ _ _ h1]
  exact qdh (CallLe.refl _) m (max n m) (Nat.le_max_right _ _) _ _ _ _ h3
 | exit id => exact ⟨n + 1, _, st', σ', by simp only [runC]; rw [h1], h2⟩
 | ret => exact ⟨n + 1, _, st', σ', by simp only [runC]; rw [h1], h2⟩

/-- A loop, by a measure that falls. -/
theorem qat {S : Sy} {A : Ann} {b : Code} {Q : Ex → St → Store → Prop} (I : Nat → St → Store → Prop) (hs : ∀ n st σ, I n st σ → W S A b (qjf (fun st' σ' => ∃ m, m < n ∧ I m st' σ') Q) st σ) : ∀ n st σ, I n st σ → W S A (.loop b) Q st σ := by
 intro n
 induction n using Nat.strongRecOn with
 | _ n ih =>
  intro st σ h
  refine qay ((hs n st σ h).mono fun e s τ hq => ?_)
  cases e with
  | normal => obtain ⟨m, hm, hI⟩ := hq; exact ih m hm s τ hI
  | exit id => exact hq
  | ret => exact hq

/-- What a function gives, by its body. -/
theorem qas {S : Sy} {f : FuncId} {A : Ann} {fn : Func} {c : Code} (hA : S.ann f = some A) (hf : S.P.funcs[f]? = some fn) (hb : fn.body = some c) {args : List V} {σ σ' : Store} {v : V}
  (h : W S A c (fun e st τ => (match e with | .exit _ => False | _ => True) ∧ (qbs S.ty st τ fn.results.toList).map qhq = some v ∧ τ = σ') { vars := qcl A 0 args, scr := [] } σ) : LV S f args σ = some (v, σ') := by
 obtain ⟨n, ex, st', σ1, h1, h2, h3, rfl⟩ := h
 obtain ⟨m, hm⟩ := runC_fin n _ _ _ _ h1
 rw [q2m]
 refine ⟨max n m + 1, ?_⟩
 have h4 := qdh (qzm (Nat.le_max_right n m)) n (max n m) (Nat.le_max_left n m) _ _ _ _ hm
 simp only [Option.map_eq_some_iff] at h3
 obtain ⟨vs, h5, rfl⟩ := h3
 simp only [qcx, hA, hf, hb]
 rw [h4]
 cases ex with
 | normal => simp only [h5, Option.map_some]
 | exit id => exact h2.elim
 | ret => simp only [h5, Option.map_some]

end Go.V

/- Short steps of a walk: the first piece of a text, and what stands behind it. -/
namespace Go.V
def hdA : Code → List Code → Code × List Code
 | .seq a b, r => hdA a (b :: r)
 | c, r => (c, r)
abbrev hd (c : Code) : Code × List Code := hdA c []
def WL (S : Sy) (A : Ann) : List Code → (Ex → St → Store → Prop) → St → Store → Prop
 | [], Q, st, σ => Q .normal st σ
 | [b], Q, st, σ => W S A b Q st σ
 | b :: c :: r, Q, st, σ => W S A b (qjf (WL S A (c :: r) Q) Q) st σ
def WQ (S : Sy) (A : Ann) : List Code → (Ex → St → Store → Prop) → Ex → St → Store → Prop
 | [], Q => Q
 | b :: r, Q => qjf (WL S A (b :: r) Q) Q
theorem q1l {S : Sy} {A : Ann} {r : List Code} {Q : Ex → St → Store → Prop} {st : St} {σ : Store} (h : WL S A r Q st σ) : WQ S A r Q .normal st σ := by
 cases r with
 | nil => exact h
 | cons b r => exact h
theorem W_hdA {S : Sy} {A : Ann} : ∀ {c : Code} {r : List Code} {Q : Ex → St → Store → Prop} {st : St} {σ : Store}, W S A (hdA c r).1 (WQ S A (hdA c r).2 Q) st σ → W S A c (WQ S A r Q) st σ := by
 intro c
 induction c with
 | seq a b iha ihb =>
  intro r Q st σ h
  refine qaw ((iha (r := b :: r) h).mono fun e s τ hq => ?_)
  cases r <;> cases e <;> exact hq
 | _ => intro r Q st σ h; exact h
theorem W_hd {S : Sy} {A : Ann} {c : Code} {Q : Ex → St → Store → Prop} {st : St} {σ : Store} (h : W S A (hd c).1 (WQ S A (hd c).2 Q) st σ) : W S A c Q st σ := W_hdA (r := []) h
theorem tq : (∀ S A Q st σ, WL S A [] Q st σ = Q .normal st σ) ∧ (∀ S A b Q st σ, WL S A [b] Q st σ = W S A b Q st σ) ∧ (∀ S A b c r Q st σ, WL S A (b :: c :: r) Q st σ = W S A b (qjf (WL S A (c :: r) Q) Q) st σ) ∧ (∀ S A Q, WQ S A [] Q = Q) ∧ (∀ S A b r Q, WQ S A (b :: r) Q = qjf (WL S A (b :: r) Q) Q) ∧ (∀ K Q st σ, qjf K Q .normal st σ = K st σ) ∧ (∀ K Q i st σ, qjf K Q (.exit i) st σ = Q (.exit i) st σ) ∧ (∀ K Q st σ, qjf K Q .ret st σ = Q .ret st σ) ∧ (∀ A i Q st σ, qfz A i Q .normal st σ = Q .normal (A.kill i st) σ) ∧ (∀ A i Q j st σ, qfz A i Q (.exit j) st σ = if j = i then Q .normal (A.kill i st) σ else Q (.exit j) st σ) ∧ (∀ A i Q st σ, qfz A i Q .ret st σ = Q .ret st σ) ∧ (∀ (A : Ann) i st, A.kill i st = match A.kills.find? (·.1 == i) with
 | some (_, ks) => { st with vars := st.vars.drop ks }
 | none => st) ∧ (∀ (α : Type) (p : α → Bool), [].find? p = none) := ⟨fun _ _ _ _ _ => rfl, fun _ _ _ _ _ _ => rfl, fun _ _ _ _ _ _ _ _ => rfl, fun _ _ _ => rfl, fun _ _ _ _ _ => rfl, fun _ _ _ _ => rfl, fun _ _ _ _ _ => rfl, fun _ _ _ _ => rfl, fun _ _ _ _ _ => rfl, fun _ _ _ _ _ _ => rfl, fun _ _ _ _ _ => rfl, fun _ _ _ => rfl, fun _ _ => rfl⟩
/-- a region -/
theorem wR {S : Sy} {A : Ann} {c : Code} {id : Nat} {ops : Array Oper} {draw : Bool} {r : List Code} {Q : Ex → St → Store → Prop} {st : St} {σ : Store} {p : St × Store} (hc : hd c = (.region id ops draw, r)) (h : qcy (LD S) S.pf S.ty A id draw ops { st with scr := [] } σ = some p) (g : WL S A r Q p.1 p.2) : W S A c Q st σ := by
 refine W_hd ?_
 rw [hc]
 exact qpp h (q1l g)
/-- a condition that is true, that is false -/
theorem wT {S : Sy} {A : Ann} {c : Code} {o : Operand} {a b : Code} {r : List Code} {Q : Ex → St → Store → Prop} {st : St} {σ : Store} (hc : hd c = (.cond o a b, r)) (h : st.eval o = .t (.bool true)) (g : W S A a (WQ S A r Q) st σ) : W S A c Q st σ := by
 refine W_hd ?_
 rw [hc]
 exact qwr h g
theorem wF {S : Sy} {A : Ann} {c : Code} {o : Operand} {a b : Code} {r : List Code} {Q : Ex → St → Store → Prop} {st : St} {σ : Store} (hc : hd c = (.cond o a b, r)) (h : st.eval o = .t (.bool false)) (g : W S A b (WQ S A r Q) st σ) : W S A c Q st σ := by
 refine W_hd ?_
 rw [hc]
 exact qwr h g
theorem wB {S : Sy} {A : Ann} {c : Code} {i : Nat} {b : Code} {r : List Code} {Q : Ex → St → Store → Prop} {st : St} {σ : Store} (hc : hd c = (.block i b, r)) (g : W S A b (qfz A i (WQ S A r Q)) st σ) : W S A c Q st σ := by
 refine W_hd ?_
 rw [hc]
 exact q2h g
abbrev iN (n : Nat) : T := .int .i64 (.ofNat n)
end Go.V

/- Symbolic walks in V: what 'simp' unfolds, and the rules. -/
namespace Go.V

attribute [simp] qcy qby qcw qfo opV qcf qae St.eval St.get St.putO St.put Env.find Env.put qcl binV qfa unV quw sc qbx lenV idxV qfr qoa cellsOf qei zeroCells qvc isStr qez qfw qbs qji qhq qcc allT qjh qac qnq qjf qfz Ann.kill Env.drop bound

theorem qaj {S : Sy} {f : FuncId} {A : Ann} (hA : S.ann f = some A) (hp : A.isPure = true) {args : List V} (ha : (allT args).isSome = true) {v : V} {σ0 : Store} (h : LV S f args [] = some (v, σ0)) {x : T} (hx : frz 40 σ0 v = some x) (σ : Store) : LD S f args σ = some (.t x, σ) := by
 unfold LD qbj
 rw [hA]
 simp only
 rw [if_pos hp]
 cases hT : allT args with
 | none => rw [hT] at ha; cases ha
 | some ts => simp only [h, hx, Option.map_some]

theorem qck {S : Sy} {f : FuncId} {A : Ann} (hA : S.ann f = some A) (hp : A.isPure = true) {args : List V} {σ σ0 : Store} {ts : List T} (ha : frzs (frz 40 σ) args = some ts) {x : T} (h : LV S f (ts.map V.t) [] = some (.t x, σ0)) (hx : qjk x = true) :
  LD S f args σ = some (.t x, σ) := by
 unfold LD qbj
 rw [hA]
 simp only [hp, if_true]
 cases hT : allT args with
 | some us =>
  have e := qcd hT
  have key : ∀ (us : List T), frzs (frz 40 σ) (us.map V.t) = some us := by
   intro us
   induction us with
   | nil => rfl
   | cons u r ih => simp only [List.map_cons, frzs, ih]; rfl
  rw [e, key] at ha
  cases ha
  rw [e, h]
  rfl
 | none => simp only [ha, h, frzN, hx, if_true, Option.map_some]

/-- What a pure function made itself, of what was frozen for the call. -/
theorem LD_made {S : Sy} {f : FuncId} {A : Ann} (hA : S.ann f = some A) (hp : A.isPure = true) {args : List V} {σ σ0 : Store} {ts : List T} (hT : allT args = none) (ha : frzs (frz 40 σ) args = some ts) {v : V} {x : T} (h : LV S f (ts.map V.t) [] = some (v, σ0)) (hx : frzN 40 σ0 v = some x) :
  LD S f args σ = some (.t x, σ) := by
 unfold LD qbj
 rw [hA]
 simp only [hp, if_true, hT, ha, h, hx, Option.map_some]

theorem qbm {S : Sy} {f : FuncId} {A : Ann} {fn : Func} {c : Code} (hA : S.ann f = some A) (hf : S.P.funcs[f]? = some fn) (hb : fn.body = some c) {args : List V} {σ : Store} {v : V}
  (h : W S A c (fun e st τ => (match e with | .exit _ => False | _ => True) ∧ (qbs S.ty st τ fn.results.toList).map qhq = some v) { vars := qcl A 0 args, scr := [] } σ) : ∃ σ', LV S f args σ = some (v, σ') := by
 obtain ⟨n, ex, st', σ1, h1, h2, h3⟩ := h
 exact ⟨σ1, qas hA hf hb ⟨n, ex, st', σ1, h1, h2, h3, rfl⟩⟩

theorem qkg {d : Nat} {σ : Store} {loc g off len k gen wgen : Nat} {cs : List V} (h : σ[loc]? = some (.cells cs gen wgen)) (h1 : wgen ≤ g) (h2 : g ≤ gen) (h3 : 0 < k) (h4 : off + len * k ≤ cs.length) {ts : List T} (h5 : frzs (frz d σ) ((cs.drop off).take (len * k)) = some ts) :
  frz (d + 1) σ (.sl loc g off len k) = some (.list (chunk k len ts)) := by
 simp only [frz, h]
 rw [if_pos ⟨h1, h2, h3, h4⟩, h5]
 rfl

end Go.V

/- From a law's run in V to the claim's call. -/
namespace Go.V

theorem q3n {S : Sy} (ok : SysOk S) {f : FuncId} {args : List V} {σ' : Store} (h : LV S f args [] = some (.t (.bool true), σ')) {W : World} {cargs : Array Value} (hv : VRs (G.of W) args cargs.toList) :
  Calls S.P f cargs W fun e w' => e = .returned (.bool true) ∧ RowKit.Below W.heap.size W w' := by
 obtain ⟨n, hn⟩ := q2m.1 h
 obtain ⟨_, h2⟩ := qtz ok n f args [] _ _ hn
 refine (h2 (G.of W) W cargs (Inv.of W) hv).mono fun e w' hh => ?_
 obtain ⟨cv, g', rfl, r1, r2, r3⟩ := hh
 simp only [VR, TR] at r1
 subst r1
 exact ⟨rfl, r3.ext.os, r3.ext.tape, r3.ext.output, r3.ext.size, fun k hk => r3.ext.keep k hk (fun loc hl => absurd hl (Nat.not_lt_zero _))⟩

theorem qin {H : Type} {enc : TypeId × Value → H} {P : Program} (hl : laidOutB P = true) {W W' : World} (hb : RowKit.Below W.heap.size W W') {sp' : Nat → Bool} :
  ∀ (ts : List TypeId) (vs : List Value) (ds : List (DataW H)) (ps : List MemPlace), (∀ t ∈ ts, P.readableRec t = true ∧ t < P.types.size) → (∀ p ∈ ps, p.block < W.heap.size) → (∀ p ∈ ps, sp' p.block = true) →
    DataW.TrodAll enc P W 0 (fun _ => true) true ts vs ds ps → DataW.TrodAll enc P W' 0 sp' true ts vs ds ps
 | [], [], [], ps, _, _, _, h => h
 | t :: ts, v :: vs, d :: ds, ps, ht, hlt, hs, h => by
  obtain ⟨p, q, h1, h2, rfl⟩ := h
  refine ⟨p, q, ?_, ?_, rfl⟩
  ·exact WideElems.Trod_stays hl (ht t (by simp)).1 (ht t (by simp)).2 h1 (fun x hx => hb.same (hlt x (by simp [hx]))) (fun x hx => hs x (by simp [hx]))
  ·exact qin hl hb ts vs ds q (fun t' h' => ht t' (by simp [h'])) (fun x hx => hlt x (by simp [hx])) (fun x hx => hs x (by simp [hx])) h2
 | [], _ :: _, _, _, _, _, _, h => by simp [DataW.TrodAll] at h
 | [], [], _ :: _, _, _, _, _, h => by simp [DataW.TrodAll] at h
 | _ :: _, [], _, _, _, _, _, h => by simp [DataW.TrodAll] at h
 | _ :: _, _ :: _, [], _, _, _, _, h => by simp [DataW.TrodAll] at h

/-- What a law's claim asks behind the call: true; each argument reads as it did. -/
theorem post_law {H : Type} {enc : TypeId × Value → H} {P : Program} {f : Func} {s : ChangeSpec} {apart fresh handsOn : Bool} {W W' : World} {args : Array Value} {ds gs : List (DataW H)} {before : List MemPlace}
  (hl : laidOutB P = true) (hv : s.vars = []) (hts : ∀ t ∈ f.params.toList, P.readableRec t = true ∧ t < P.types.size) (tb : TypeId) (hres : f.resultTypes = #[tb]) (htb : P.underlying tb = some .bool)
  (hW : DataW.Whole enc P f.params.toList s.vars apart W args.toList ds gs before) (hfn : s.fn H (ds ++ gs) = { results := [.lit (.bool true)], args := ds }) (hb : RowKit.Below W.heap.size W W') :
  s.post enc P f apart fresh handsOn false W args (.bool true) W' := by
 have hW' := hW
 obtain ⟨p, q, hA, hV, rfl, hz, hn⟩ := hW
 rw [hv] at hV
 obtain ⟨rfl, rfl⟩ := ChangeShapes.trodVars_none hV
 refine ⟨ds, [], p ++ [], [], p, [], hW', ?_, ?_, ?_, ?_, fun h => by cases h⟩
 ·rw [hfn, hres]
  exact ⟨[], [], RowKit.shut_bool htb true, rfl, rfl⟩
 ·rw [hfn]
  refine qin hl hb _ _ _ _ hts (fun x hx => ?_) (fun x hx => ?_) hA
  ·exact hW'.lt x (by simpa using hx)
  ·simpa using hW'.lt x (by simpa using hx)
 ·rw [hfn, hv]; rfl
 ·refine World.keptBut_mono (fun x hx => ?_) (hb.frame fun x => x ∈ p)
  exact ⟨by simpa using hx, .inr (.inl hx)⟩

end Go.V

/- From a law's arguments, read as data, to trees. -/
namespace Go.V

def qlz (P : Program) : List Field → Nat → Nat → Bool
 | [], off, n => Nat.beq off n
 | f :: r, off, n => Nat.beq f.offset off && qlz P r (off + P.cellsOf f.type) n

/-- Data that is laid out cell behind cell: numbers, bools, strings, structs and slices of such. -/
def qol (P : Program) : Nat → TypeId → Bool
 | 0, _ => false
 | n + 1, t => match P.underlying t with
  | some (.int _) => true
  | some .bool => true
  | some .string => true
  | some (.slice e) => qol P n e && Nat.blt 0 (P.cellsOf e)
  | some (.struct fs) => qlz P fs.toList 0 (P.cellsOf t) && fs.toList.all fun f => qol P n f.type
  | _ => false

def ShpFs (S : TypeId → List T → Prop) : List Field → List T → Prop
 | [], xs => xs = []
 | f :: r, xs => ∃ p q, xs = p ++ q ∧ S f.type p ∧ ShpFs S r q

/-- The trees of a type's cells. -/
def Shp (P : Program) : Nat → TypeId → List T → Prop
 | 0, _, _ => False
 | n + 1, t, xs => match P.underlying t with
  | some (.int k) => ∃ i, xs = [.int k i] ∧ (Lit.int k i).wf = true
  | some .bool => ∃ b, xs = [.bool b]
  | some .string => ∃ s, xs = [.str s] ∧ s.length ≤ maxLen
  | some (.slice e) => xs = [.nils] ∨ ∃ rows, xs = [.list rows] ∧ rows.length ≤ maxLen ∧ ∀ r ∈ rows, ∃ cs, r = .agg cs ∧ Shp P n e cs
  | some (.struct fs) => ShpFs (Shp P n) fs.toList xs
  | _ => False

theorem qok {fz : Nat → Nat → Option Value} : ∀ {xs ys : List T} {l m : List Value}, TRs fz xs l → TRs fz ys m → TRs fz (xs ++ ys) (l ++ m)
 | [], ys, l, m, h, h' => by simp only [TRs] at h; subst h; exact h'
 | x :: xs, ys, l, m, h, h' => by
  simp only [TRs] at h
  obtain ⟨v, r, rfl, h1, h2⟩ := h
  simp only [List.cons_append, TRs]
  exact ⟨v, r ++ m, rfl, h1, qok h2 h'⟩

theorem q0m {fz : Nat → Nat → Option Value} : ∀ {xs : List T} {l : List Value}, TRs fz xs l → xs.length = l.length ∧ ∀ (i : Nat) (x : T), xs[i]? = some x → ∃ v, l[i]? = some v ∧ TR fz x v
 | [], l, h => by simp only [TRs] at h; subst h; exact ⟨rfl, fun i x hx => by simp at hx⟩
 | x :: xs, l, h => by
  simp only [TRs] at h
  obtain ⟨v, r, rfl, h1, h2⟩ := h
  obtain ⟨h3, h4⟩ := q0m h2
  refine ⟨by simp [h3], fun i y hy => ?_⟩
  cases i with
  | zero => simp at hy; subst hy; exact ⟨v, rfl, h1⟩
  | succ i => simp at hy; simpa using h4 i y hy

theorem qyt (b : ByteArray) : (bytes b).length = b.size := by
 simp only [bytes, List.length_map, Array.length_toList]; rfl

theorem trod_T {H : Type} {enc : TypeId × Value → H} {P : Program} {w : World} : ∀ (n : Nat) (t : TypeId), qol P n t = true → ∀ (m : Nat) (cs : List Value) (x : DataW H × List MemPlace), DataW.trod enc P w 0 (fun _ => true) true m t cs = some x →
  ∃ xs, TRs (G.of w).fz xs cs ∧ cs.all Value.oneCell' = true ∧ Shp P n t xs := by
 intro n
 induction n with
 | zero => intro t h; simp [qol] at h
 | succ n ih =>
  intro t hp m cs x hx
  simp only [qol] at hp
  simp only [Shp]
  split at hp
  ·rename_i k hu
   obtain ⟨i, rfl, _, hw⟩ := DataW.trod_int hu hx
   refine ⟨[.int k i], by simp [TRs, TR], rfl, ?_⟩
   exact ⟨i, rfl, hw⟩
  ·rename_i hu
   obtain ⟨b, rfl, _⟩ := DataW.trod_bool hu hx
   refine ⟨[.bool b], by simp [TRs, TR], rfl, ?_⟩
   exact ⟨b, rfl⟩
  ·rename_i hu
   obtain ⟨s, rfl, _, hs⟩ := DataW.trod_string hu hx
   refine ⟨[.str (bytes s)], by simp [TRs, TR], rfl, ?_⟩
   exact ⟨bytes s, rfl, by rw [qyt]; exact hs⟩
  ·rename_i e hu
   simp only [Bool.and_eq_true] at hp
   have hk : 0 < P.cellsOf e := by simpa [Nat.blt_eq] using hp.2
   rcases DataW.trod_slice hu hx with ⟨rfl, _⟩ | ⟨a, len, cap, elems, rest, m', _, rfl, _, hb, hl, hm, hlen, hel, _, _⟩
   ·refine ⟨[.nils], by simp [TRs, TR], rfl, ?_⟩
    exact .inl rfl
   ·have each : ∀ i, i < len → ∃ xs vs, w.cells? 0 (a.add (i * P.cellsOf e)) (P.cellsOf e) = some vs ∧ TRs (G.of w).fz xs vs ∧ vs.all Value.oneCell' = true ∧ Shp P n e xs := by
     intro i hi
     have h1 := hel i hi
     rw [List.getElem?_eq_getElem (show i < elems.length by omega), Option.bind_eq_some_iff] at h1
     obtain ⟨vs, h2, h3⟩ := h1
     obtain ⟨xs, q1, q2, q3⟩ := ih e hp.1 m' vs _ h3
     exact ⟨xs, vs, h2, q1, q2, q3⟩
    have hspot : 0 < len → a.spot = none := by
     intro h0
     obtain ⟨xs, vs, h1, _⟩ := each 0 h0
     obtain ⟨_, h2, h3⟩ := World.cells?_some h1
     have h4 := h3 0 hk
     rw [Nat.zero_mul] at h4
     simp only [Addr.add, if_true] at h4
     have h5 : ∃ v, w.cell? a = some v := ⟨vs[0]'(by omega), by rw [h4]; exact List.getElem?_eq_getElem _⟩
     obtain ⟨v, h5⟩ := h5
     unfold World.cell? at h5
     split at h5
     ·split at h5
      ·cases h5
      ·rename_i hs; simpa using hs
     ·cases h5
    let f : Nat → List T := fun i => if h : i < len then (each i h).choose else []
    have hf : ∀ i, i < len → ∃ vs, w.cells? 0 (a.add (i * P.cellsOf e)) (P.cellsOf e) = some vs ∧ TRs (G.of w).fz (f i) vs ∧ vs.all Value.oneCell' = true ∧ Shp P n e (f i) := by
     intro i hi
     have := (each i hi).choose_spec
     simp only [f, dif_pos hi]
     exact this
    refine ⟨[.list ((List.range len).map fun i => .agg (f i))], ?_, rfl, ?_⟩
    ·simp only [TRs, TR, List.length_map, List.length_range]
     refine ⟨_, _, rfl, ⟨a, cap, P.cellsOf e, rfl, hl, ?_, ?_⟩, rfl⟩
     ·rcases Nat.eq_zero_or_pos len with h0 | h0
      ·subst h0; exact .inl rfl
      ·exact .inr (hspot h0)
     ·refine TRrows.of_get fun i y hy => ?_
      rw [List.getElem?_map, Option.map_eq_some_iff] at hy
      obtain ⟨j, hj, rfl⟩ := hy
      have hi : i < len := by
       rcases Nat.lt_or_ge i len with h | h
       ·exact h
       ·rw [List.getElem?_eq_none (by simpa using h)] at hj; cases hj
      rw [List.getElem?_range hi] at hj
      cases hj
      obtain ⟨vs, h1, h2, h3, h4⟩ := hf i hi
      obtain ⟨_, h5, h6⟩ := World.cells?_some h1
      obtain ⟨h7, h8⟩ := q0m h2
      refine ⟨f i, rfl, by omega, TRcells.of_get fun j z hz => ?_⟩
      obtain ⟨v, r1, r2⟩ := h8 j z hz
      have hjk : j < P.cellsOf e := by
       rcases Nat.lt_or_ge j vs.length with h | h
       ·omega
       ·rw [List.getElem?_eq_none h] at r1; cases r1
      have h9 := h6 j hjk
      rw [r1] at h9
      refine ⟨v, ?_, List.all_eq_true.1 h3 v (List.mem_of_getElem? r1), r2⟩
      have hsp := hspot (by omega)
      obtain ⟨blk, off, sp⟩ := a
      simp only at hsp
      subst hsp
      have e1 : ∀ (x y : Nat), (Addr.add ⟨blk, x, none⟩ y) = ⟨blk, x + y, none⟩ := fun x y => by
       unfold Addr.add; split
       ·rename_i h; subst h; rfl
       ·rfl
      rw [e1, e1] at h9
      exact h9
    ·refine .inr ⟨_, rfl, by simp; omega, fun r hr => ?_⟩
     rw [List.mem_map] at hr
     obtain ⟨i, hi, rfl⟩ := hr
     obtain ⟨vs, _, _, _, h4⟩ := hf i (by simpa using hi)
     exact ⟨f i, rfl, h4⟩
  ·rename_i fs hu
   simp only [Bool.and_eq_true, List.all_eq_true] at hp
   obtain ⟨ys, m', _, _, hlen, hys, hf⟩ := DataW.trod_struct hu hx
   have hall : ∀ f ∈ fs.toList, ∃ y, DataW.trod enc P w 0 (fun _ => true) true m' f.type ((cs.drop f.offset).take (P.cellsOf f.type)) = some y := by
    intro f hfm
    obtain ⟨i, hi, hfi⟩ := List.mem_iff_getElem.1 hfm
    have h1 := hf i f (by rw [← hfi]; simp)
    rw [List.getElem?_eq_getElem (show i < ys.length by simpa [hys] using hi)] at h1
    exact ⟨_, h1⟩
   have key : ∀ (l : List Field) (off : Nat), qlz P l off (P.cellsOf t) = true → (∀ f ∈ l, qol P n f.type = true) → (∀ f ∈ l, ∃ y, DataW.trod enc P w 0 (fun _ => true) true m' f.type ((cs.drop f.offset).take (P.cellsOf f.type)) = some y) →
     ∃ xs, TRs (G.of w).fz xs (cs.drop off) ∧ (cs.drop off).all Value.oneCell' = true ∧ ShpFs (Shp P n) l xs := by
    intro l
    induction l with
    | nil =>
     intro off hc _ _
     simp only [qlz, Nat.beq_eq] at hc
     have : cs.drop off = [] := List.drop_eq_nil_of_le (by omega)
     exact ⟨[], by rw [this]; simp [TRs], by rw [this]; rfl, rfl⟩
    | cons f r ihl =>
     intro off hc hpl hal
     simp only [qlz, Bool.and_eq_true, Nat.beq_eq] at hc
     obtain ⟨hoff, hc⟩ := hc
     obtain ⟨y, hy⟩ := hal f (by simp)
     obtain ⟨p, p1, p2, p3⟩ := ih f.type (hpl f (by simp)) m' _ _ hy
     obtain ⟨q, q1, q2, q3⟩ := ihl (off + P.cellsOf f.type) hc (fun g hg => hpl g (by simp [hg])) (fun g hg => hal g (by simp [hg]))
     rw [hoff] at p1 p2
     have hsplit : cs.drop off = (cs.drop off).take (P.cellsOf f.type) ++ cs.drop (off + P.cellsOf f.type) := by
      rw [← List.drop_drop]; exact (List.take_append_drop _ _).symm
     refine ⟨p ++ q, ?_, ?_, p, q, rfl, p3, q3⟩
     ·rw [hsplit]; exact qok p1 q1
     ·rw [hsplit, List.all_append, p2, q2]; rfl
   obtain ⟨xs, h1, h2, h3⟩ := key fs.toList 0 hp.1 hp.2 hall
   rw [List.drop_zero] at h1 h2
   refine ⟨xs, h1, h2, ?_⟩
   exact h3
  ·cases hp

theorem qop {α : Type} {f : α → T} : ∀ (rows : List T), (∀ r ∈ rows, ∃ a, r = f a) → ∃ l : List α, rows = l.map f
 | [], _ => ⟨[], rfl⟩
 | r :: rows, h => by
  obtain ⟨a, rfl⟩ := h r (by simp)
  obtain ⟨l, rfl⟩ := qop rows (fun x hx => h x (by simp [hx]))
  exact ⟨a :: l, rfl⟩

theorem Shp_ints {P : Program} {n : Nat} {t e : TypeId} {k : IntKind} {xs : List T} (hu : P.underlying t = some (.slice e)) (he : P.underlying e = some (.int k)) (h : Shp P (n + 2) t xs) :
  xs = [.nils] ∨ ∃ l : List Int, xs = [.list (l.map fun i => .agg [.int k i])] ∧ l.length ≤ maxLen := by
 simp only [Shp, hu] at h
 rcases h with h | ⟨rows, rfl, hl, hr⟩
 ·exact .inl h
 ·obtain ⟨l, rfl⟩ := qop (f := fun i => T.agg [.int k i]) rows (fun r hr' => by
   obtain ⟨cs, rfl, hc⟩ := hr r hr'
   rw [he] at hc
   obtain ⟨i, rfl, _⟩ := hc
   exact ⟨i, rfl⟩)
  exact .inr ⟨l, rfl, by simpa using hl⟩

end Go.V
