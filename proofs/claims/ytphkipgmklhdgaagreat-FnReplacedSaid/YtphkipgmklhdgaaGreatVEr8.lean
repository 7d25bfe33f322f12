/- A part of the proof. No statement of the claim is in it. -/
import Derived.Test.YtphkipgmklhdgaaGreatVEr7
open Go Go.V Go.Proofs
namespace X
set_option maxRecDepth 100000
set_option maxHeartbeats 4000000
set_option linter.unusedSimpArgs false
set_option linter.unusedVariables false
attribute [-simp] lenV idxV getElem?_pos mkAgg cellsOf loadV
/-! ### Regions whose loads are looked at again -/
theorem eqL_self : ∀ l : List Nat, eqL l l = true
 | [] => rfl
 | a :: r => by simp only [eqL, Go.V.beq_self, eqL_self r, Bool.and_self]
mutual
theorem beqT_self : ∀ x : T, beqT x x = true
 | .undef => rfl
 | .bool b => by cases b <;> rfl
 | .int k n => by
  have h1 : beqK k k = true := by cases k <;> rfl
  have h2 : beqI n n = true := by cases n <;> simp only [beqI, Go.V.beq_self]
  simp only [beqT, h1, h2, Bool.and_self]
 | .str s => by simp only [beqT, eqL_self]
 | .nilp => rfl
 | .nils => rfl
 | .nilm => rfl
 | .nilf => rfl
 | .agg a => by simp only [beqT, beqTs_self a]
 | .tup a => by simp only [beqT, beqTs_self a]
 | .list a => by simp only [beqT, beqTs_self a]
 | .snap a => by simp only [beqT, beqTs_self a]
theorem beqTs_self : ∀ x : List T, beqTs x x = true
 | [] => rfl
 | x :: r => by simp only [beqTs, beqT_self x, beqTs_self r, Bool.and_self]
end
mutual
theorem beqV_self : ∀ x : V, beqV x x = true
 | .t x => by simp only [beqV, beqT_self x]
 | .sl .. => by simp only [beqV, Go.V.beq_self, Bool.and_self]
 | .ptr .. => by simp only [beqV, Go.V.beq_self, Bool.and_self]
 | .mp _ => by simp only [beqV, Go.V.beq_self]
 | .fn f a => by simp only [beqV, Go.V.beq_self, beqVs_self a, Bool.and_self]
 | .bm f a => by simp only [beqV, Go.V.beq_self, beqVs_self a, Bool.and_self]
 | .agg a => by simp only [beqV, beqVs_self a]
 | .tup a => by simp only [beqV, beqVs_self a]
theorem beqVs_self : ∀ x : List V, beqVs x x = true
 | [] => rfl
 | x :: r => by simp only [beqVs, beqV_self x, beqVs_self r, Bool.and_self]
end
def okL (stop : List Nat) (f : Nat × TI × V × V → Bool) (ls : Lds) : Bool := ls.all fun l => memN l.1 stop || f l
theorem okL_live {s stop : List Nat} {f : Nat × TI × V × V → Bool} : ∀ {ls : Lds}, okL stop f ls = true → okL stop f (liveL s ls) = true
 | [], h => h
 | l :: r, h => by
  simp only [okL, List.all_cons, Bool.and_eq_true] at h
  simp only [liveL]
  split
  ·exact okL_live h.2
  ·simp only [okL, List.all_cons, Bool.and_eq_true]
   exact ⟨h.1, okL_live h.2⟩
theorem live_all {stop : List Nat} {f : Nat × TI × V × V → Bool} : ∀ {ls : Lds}, okL stop f ls = true → (liveL stop ls).all f = true
 | [], _ => rfl
 | l :: r, h => by
  simp only [okL, List.all_cons, Bool.and_eq_true, Bool.or_eq_true] at h
  simp only [liveL]
  split
  ·exact live_all h.2
  ·rename_i e
   simp only [List.all_cons, Bool.and_eq_true]
   refine ⟨?_, live_all h.2⟩
   rcases h.1 with h1 | h1
   ·rw [e] at h1; cases h1
   ·exact h1
theorem okL_nil (stop : List Nat) (f : Nat × TI × V × V → Bool) : okL stop f [] = true := rfl
theorem okL_cons (stop : List Nat) (f : Nat × TI × V × V → Bool) (l : Nat × TI × V × V) (r : Lds) : okL stop f (l :: r) = ((memN l.1 stop || f l) && okL stop f r) := rfl
theorem okAt_load {σ : Store} {i : TI} {x v : V} (h : loadV σ i x = some v) : okAt σ i x v = true := by
 unfold okAt
 split
 ·split
  ·rw [h]; exact beqV_self v
  ·rfl
 ·rfl
theorem W_regD {S : Sy} {A : Ann} {id : Nat} {ops : Array Oper} {Q : Ex → St → Store → Prop} {st st' : St} {σ σ' : Store} (P : Array Nat → Bool) (hs : P (Region.before ops) = true) (hbad : A.bad.contains id = false) (hdyn : A.dyn.contains id = true)
  (h : ∀ b : Array Nat, P b = true → runOpsD (LD S) S.pf S.ty A id ops b 0 ops.toList { st with scr := [] } σ [(ops.size, σ)] [] = some (st', σ')) (hq : Q .normal st' σ') : W S A (.region id ops true) Q st σ := by
 refine W_region ?_ hq
 unfold runReg
 rw [if_neg (by rw [hbad]; simp), if_pos (by rw [hdyn]; rfl)]
 exact h _ hs

/-! ### A look -/
def bools (l : List Bool) : List V := l.map fun b => V.t (B b)
@[simp] theorem bools_len (l : List Bool) : (bools l).length = l.length := by simp [bools]
@[simp] theorem bools_get (l : List Bool) (i : Nat) : (bools l)[i]? = (l[i]?).map fun b => V.t (B b) := by simp [bools]
theorem bools_set (l : List Bool) (i : Nat) (b : Bool) : (bools l).set i (V.t (B b)) = bools (l.set i b) := by simp [bools, List.map_set]
def markS : List At → List Bool → Option (List Bool)
 | [], f => some f
 | a :: r, f => if a.1 < f.length then markS r (f.set a.1 true) else none
theorem markS_len : ∀ {l : List At} {f f' : List Bool}, markS l f = some f' → f'.length = f.length
 | [], f, f', h => by cases h; rfl
 | a :: r, f, f', h => by
  simp only [markS] at h
  split at h
  ·have := markS_len h; simpa using this
  ·cases h
def symsL : T → Option (List T)
 | .nils => some []
 | .list l => some l
 | _ => none
theorem symsL_eq {x : T} {l : List T} (h : symsL x = some l) : Syms x l := by
 unfold symsL at h
 split at h
 ·cases h; exact .inl ⟨rfl, rfl⟩
 ·cases h; exact .inr rfl
 ·cases h
theorem Syms.idxk {xs : T} {l : List T} (h : Syms xs l) {i : Nat} {cs : List T} {n : Nat} (hi : l[i]? = some (.agg cs)) (hn : cs.length = n) : idxV n (.t xs) (i : Int) = some (.t (.snap cs)) := by
 rcases h with ⟨rfl, rfl⟩ | rfl
 ·simp at hi
 ·simp [hi, hn]
def altOne (K : Kn) (text : List Nat) (ps : T) (g : Gl) (x : T) (f : List Bool) (s : Rs) : Option (List Bool × Rs) :=
 match x with
 | .agg [xs] => match symsL xs with
  | none => none
  | some syms => if syms.length ≤ 1048576 then match K.env0 ps g.args with
   | none => none
   | some env => match altS K text syms [(g.from_, env)] s with
    | none => none
    | some (l, s') => if l.length ≤ 1000000000000 then match markS l f with
     | none => none
     | some f' => some (f', s')
     else none
   else none
 | _ => none
def looksS (K : Kn) (text : List Nat) (ps : T) (g : Gl) : List T → List Bool → Rs → Option (List Bool × Rs)
 | [], f, s => some (f, s)
 | x :: r, f, s => match altOne K text ps g x f s with
  | none => none
  | some (f', s') => looksS K text ps g r f' s'
def addsS (i : Nat) (ends : List Nat) : List Bool → Nat → Rs → Option Rs
 | [], _, s => some s
 | b :: r, p, s => if b && !ends.contains p then match addS s i p with
   | none => none
   | some s' => addsS i ends r (p + 1) s'
  else addsS i ends r (p + 1) s
def lookS (K : Kn) (rules : List T) (text : List Nat) (s : Rs) (i : Nat) : Option Rs :=
 match s.goals[i]? with
 | none => none
 | some g => match rules[g.rule]? with
  | some (.agg [.str nm, ps, az]) => match symsL az with
   | none => none
   | some al => if al.length ≤ 1048576 ∧ text.length ≤ 1048576 ∧ g.ends.length ≤ 1000 then match looksS K text ps g al (List.replicate (text.length + 1) false) s with
    | none => none
    | some (f, s1) => addsS i g.ends f 0 s1
    else none
  | _ => none
theorem RdP.not_bools {σ : Store} {gs : List Gl} {vs : List V3} (h : RdP σ gs vs) {d g w : Nat} {f : List Bool} (hd : σ[d]? = some (.cells (bools f) g w)) (hf : 0 < f.length) : d ∉ locsP vs := by
 intro hm
 obtain ⟨p, hp, hj⟩ := List.mem_flatMap.1 hm
 obtain ⟨i, hi⟩ := List.getElem?_of_mem hp
 obtain ⟨gl, hg⟩ := get_of_lt (show i < gs.length by rw [← h.1]; exact lt_of_get hi)
 obtain ⟨h1, h2, h3⟩ := h.2 i gl p hg hi
 have key : ∀ {v : V} {l : List Nat}, Rd σ v l → d ∈ locV v → False := by
  intro v l hr hm
  rcases hr with ⟨rfl, _⟩ | rfl | ⟨d', g', w', rfl, q1, q2⟩
  ·simp [locV] at hm
  ·simp [locV] at hm
  ·simp only [locV, List.mem_singleton] at hm
   subst hm
   rw [hd] at q1
   simp only [Option.some.injEq, V.Obj.cells.injEq] at q1
   have e := q1.1
   cases f with
   | nil => simp at hf
   | cons b f => cases l with
    | nil => simp [bools, ints] at e
    | cons n l => simp [bools, ints] at e
 simp only [List.mem_append] at hj
 rcases hj with hj | hj | hj
 ·exact key h1 hj
 ·exact key h2 hj
 ·exact key h3 hj
theorem AtS.not_bools {σ : Store} {v : V} {d' : Nat} {l : List At} (h : AtS σ v d' l) {d g w : Nat} {f : List Bool} (hd : σ[d]? = some (.cells (bools f) g w)) (hf : 0 < f.length) : d' ≠ d := by
 rintro rfl
 obtain ⟨g', w', _, q1, _⟩ := h
 rw [hd] at q1
 simp only [Option.some.injEq, V.Obj.cells.injEq] at q1
 have e := q1.1
 cases f with
 | nil => simp at hf
 | cons b f => cases l with
  | nil => simp [bools, cellsA] at e
  | cons n l => simp [bools, cellsA] at e

theorem getB (σ r : Store) : (σ ++ r)[σ.length + 1]? = r[1]? := by
 rw [List.getElem?_append_right (by omega), Nat.add_sub_cancel_left]
theorem setB (σ r : Store) (x : Go.V.Obj) : (σ ++ r).set (σ.length + 1) x = σ ++ r.set 1 x := by
 rw [List.set_append_right _ _ (by omega), Nat.add_sub_cancel_left]
theorem getC (σ r : Store) : (σ ++ r)[σ.length + 2]? = r[2]? := by
 rw [List.getElem?_append_right (by omega), Nat.add_sub_cancel_left]
theorem rep_bools : ∀ n, repZero [V.t (B false)] n = bools (List.replicate n false)
 | 0 => rfl
 | n + 1 => by
  simp only [repZero, rep_bools n, List.replicate_succ]
  rfl
theorem look_ld {K : Kn} {rules : List T} {text : List Nat} (hK : KnOk K (.list rules) text) {r gl : Nat} {σ : Store} {vs : List V3} {s s' : Rs} (R : Rep (.list rules) text r gl σ vs s) (i : Nat) (h : lookS K rules text s i = some s') :
  ∃ σ' vs', LD S 52 [.ptr r 0 0 6, .t (I i)] σ = some (.t (.tup []), σ') ∧ Rep (.list rules) text r gl σ' vs' s' ∧ Fr [r, gl] σ σ' := by
 unfold lookS at h
 split at h
 ·cases h
 rename_i g hgi
 split at h
 rotate_left
 ·cases h
 rename_i nm ps az hrule
 split at h
 ·cases h
 rename_i al hal
 split at h
 rotate_left
 ·cases h
 rename_i hb
 obtain ⟨b1, b2, b3⟩ := hb
 split at h
 ·cases h
 rename_i f1 s1 hlooks
 have hsy := symsL_eq hal
 obtain ⟨gg, gw, hw, hr, hg⟩ := R.run
 simp only [rnObj] at hr
 have n1 := R.ne
 have lr := lt_of_get hr
 have lg := lt_of_get hg
 have hi := lt_of_get hgi
 obtain ⟨p, hp⟩ := get_of_lt (show i < vs.length by rw [R.rd.1]; exact hi)
 obtain ⟨c0, c1, c2, c3, c4⟩ := gcells_get hgi hp
 have hcl := gcells_len s.goals vs R.rd.1
 obtain ⟨ra, re, rk⟩ := R.rd.2 i g p hgi hp
 have hi1 : (i : Int) < s.goals.length := by omega
 have hi2 : i * 5 + 5 ≤ s.goals.length * 5 := by omega
 have h5c : ((gcells s.goals vs).drop (i * 5)).take 5 = [.t (I g.rule), p.1, .t (I g.from_), p.2.1, p.2.2] := by
  rw [drop_get c0, drop_get c1, drop_get c2, drop_get c3, drop_get c4]
  rfl
 suffices hh : ∃ v σ', LV S 52 [.ptr r 0 0 6, .t (I i)] σ = some (v, σ') ∧ v = .t (.tup []) ∧ ∃ vs', Rep (.list rules) text r gl σ' vs' s' ∧ Fr [r, gl] σ σ' by
  obtain ⟨v, σ', h1, rfl, vs', h2, h3⟩ := hh
  exact ⟨σ', vs', by rw [LD_inl (A := A52) rfl rfl rfl]; exact h1, h2, h3⟩
 refine LV_bodyX (A := A52) rfl Tryz.func52 rfl ?_
 have hmk := mk_cells [.t (I g.rule), p.1, .t (I g.from_), p.2.1, p.2.2]
 repeat apply W_seq
 refine W_region (by simp [hr, hg, hcl, hi1, hi2, hw, h5c, getA, setA, fillV, hmk, setRange]; first | exact ⟨rfl, rfl⟩ | exact rfl) ?_
 try simp only [thenQ, blockQ, Ann.kill, List.find?_nil]
 have hrA : ∀ o, (σ ++ o)[r]? = some (.cells [.t (.list rules), .t (.str text), .sl gl gg 0 s.goals.length 5, .t (I s.rank), .t (B s.fresh), .t (B s.full)] 0 0) := fun o => by rw [List.getElem?_append_left lr]; exact hr
 repeat apply W_seq
 refine W_region (by simp [hrA, getA, getB, setB, hrule, fillV, setRange]; first | exact ⟨rfl, rfl⟩ | exact rfl) ?_
 try simp only [thenQ, blockQ, Ann.kill, List.find?_nil]
 have hnn : (text.length : Int) + 1 = ((text.length + 1 : Nat) : Int) := by omega
 have hnb : (text.length : Int) + 1 ≤ 140737488355328 := by omega
 have hrp := rep_bools (text.length + 1)
 repeat apply W_seq
 refine W_region (by simp [hrA, IntWalk.i64_in ((text.length : Int) + 1) (by omega), hnb, hrp]; first | exact ⟨rfl, rfl⟩ | exact rfl) ?_
 try simp only [thenQ, blockQ, Ann.kill, List.find?_nil]
 have hbx : (σ ++ [V.Obj.cells [V.t (I g.rule), p.1, V.t (I g.from_), p.2.1, p.2.2] 0 0, V.Obj.cells [V.t (.str nm), V.t ps, V.t az] 0 0, V.Obj.cells (bools (List.replicate (text.length + 1) false)) 0 0])[σ.length]? = some (.cells [V.t (I g.rule), p.1, V.t (I g.from_), p.2.1, p.2.2] 0 0) := by rw [getA]; rfl
 have hby : (σ ++ [V.Obj.cells [V.t (I g.rule), p.1, V.t (I g.from_), p.2.1, p.2.2] 0 0, V.Obj.cells [V.t (.str nm), V.t ps, V.t az] 0 0, V.Obj.cells (bools (List.replicate (text.length + 1) false)) 0 0])[σ.length + 1]? = some (.cells [V.t (.str nm), V.t ps, V.t az] 0 0) := by rw [getB]; rfl
 have hbf : (σ ++ [V.Obj.cells [V.t (I g.rule), p.1, V.t (I g.from_), p.2.1, p.2.2] 0 0, V.Obj.cells [V.t (.str nm), V.t ps, V.t az] 0 0, V.Obj.cells (bools (List.replicate (text.length + 1) false)) 0 0])[σ.length + 2]? = some (.cells (bools (List.replicate (text.length + 1) false)) 0 0) := by rw [getC]; rfl
 have hF0 : Fr [r, gl] σ (σ ++ [V.Obj.cells [V.t (I g.rule), p.1, V.t (I g.from_), p.2.1, p.2.2] 0 0, V.Obj.cells [V.t (.str nm), V.t ps, V.t az] 0 0, V.Obj.cells (bools (List.replicate (text.length + 1) false)) 0 0]) := Fr.app _ _ _
 have R0 := R.fr (σ' := σ ++ [V.Obj.cells [V.t (I g.rule), p.1, V.t (I g.from_), p.2.1, p.2.2] 0 0, V.Obj.cells [V.t (.str nm), V.t ps, V.t az] 0 0, V.Obj.cells (bools (List.replicate (text.length + 1) false)) 0 0]) (fun j hj => List.getElem?_append_left hj)
 revert hbx hby hbf hF0 R0
 generalize (σ ++ [V.Obj.cells [V.t (I g.rule), p.1, V.t (I g.from_), p.2.1, p.2.2] 0 0, V.Obj.cells [V.t (.str nm), V.t ps, V.t az] 0 0, V.Obj.cells (bools (List.replicate (text.length + 1) false)) 0 0]) = τ0
 intro hbx hby hbf hF0 R0
 repeat apply W_seq
 refine W_region (by simp; first | exact ⟨rfl, rfl⟩ | exact rfl) ?_
 try simp only [thenQ, blockQ, Ann.kill, List.find?_nil]
 repeat apply W_seq
 refine W_block ?_
 refine W_loop (I := fun m st τ => ∃ k f sk vk, m = al.length - k ∧ k ≤ al.length ∧ f.length = text.length + 1 ∧ looksS K text ps g (al.drop k) f sk = some (f1, s1) ∧ st.vars = [(0, .ptr r 0 0 6), (1, .t (I i)), (4, .ptr σ.length 0 0 5), (5, .ptr (σ.length + 1) 0 0 3), (6, .sl (σ.length + 2) 0 0 (text.length + 1) 1), (7, .t (I k))] ∧ τ[σ.length + 2]? = some (.cells (bools f) 0 0) ∧ Rep (.list rules) text r gl τ vk sk ∧ Fr [r, gl] σ τ ∧ τ[σ.length]? = some (.cells [V.t (I g.rule), p.1, V.t (I g.from_), p.2.1, p.2.2] 0 0) ∧ τ[σ.length + 1]? = some (.cells [V.t (.str nm), V.t ps, V.t az] 0 0)) ?_ al.length _ _ ⟨0, _, s, vs, rfl, Nat.zero_le _, by simp, hlooks, by simp, hbf, R0, hF0, hbx, hby⟩
 clear hlooks hbx hby hbf hF0 R0
 rintro m ⟨vars, scr⟩ τ ⟨k, f, sk, vk, rfl, hk, hfl, hl, hvs, hbf, Rk, hF, hbx, hby⟩
 simp only at hvs
 subst hvs
 repeat apply W_seq
 refine W_region (by simp [hby, hsy.len]; first | exact ⟨rfl, rfl⟩ | exact rfl) ?_
 try simp only [thenQ, blockQ, Ann.kill, List.find?_nil]
 by_cases d1 : k < al.length
 ·repeat apply W_seq
  refine W_cond (t := true) (by simp [d1]) ?_
  simp only [if_true, if_false, Bool.false_eq_true]
  refine W_skip ?_
  try simp only [thenQ, blockQ, Ann.kill, List.find?_nil]
  repeat apply W_seq
  refine W_block ?_
  obtain ⟨x, hx⟩ := get_of_lt d1
  rw [drop_get hx] at hl
  simp only [looksS] at hl
  split at hl
  ·cases hl
  rename_i f' s2 hone
  unfold altOne at hone
  split at hone
  rotate_left
  ·cases hone
  rename_i xs
  split at hone
  ·cases hone
  rename_i syms hsyms
  split at hone
  rotate_left
  ·cases hone
  rename_i hsl
  split at hone
  ·cases hone
  rename_i env henv
  split at hone
  ·cases hone
  rename_i l s3 halt
  split at hone
  rotate_left
  ·cases hone
  rename_i hll
  split at hone
  ·cases hone
  rename_i f2 hmark
  cases hone
  obtain ⟨hel, hen⟩ := hK.env0 _ _ _ henv
  have own : ∀ {v : V} {ll : List Nat}, Rd σ v ll → (∀ j ∈ locV v, j ≠ r ∧ j ≠ gl) → Rd τ v ll := fun hh ha => hh.keep fun j hj => hF.2 j (hh.locs j hj) (by have := ha j hj; simp [this])
  have ra' := own ra (fun j hj => R.apart j (mem_locsP hp j (.inl hj)))
  have hen' := hen τ p.1 ra'
  have hix := hsy.idxk hx (n := 1) rfl
  have lk := Rk.lt
  have lbf := lt_of_get hbf
  have Rb := Rk.fr (σ' := τ ++ [boxA (g.from_, env)]) (fun j hj => List.getElem?_append_left hj)
  have hAt : AtS (τ ++ [boxA (g.from_, env)]) (.sl τ.length 0 0 1 2) τ.length [(g.from_, env)] := ⟨0, 0, rfl, by rw [getA]; rfl, Nat.le_refl _⟩
  obtain ⟨v', d', τ2, v2, q1, q2, q3, q4, q5, q6⟩ := alt_ld hK (symsL_eq hsyms) hsl Rb hAt ⟨by omega, by omega⟩ (fun a ha => by simp only [List.mem_singleton] at ha; subst ha; exact hel) halt
  simp only [boxA] at q1
  have hbx2 : τ2[σ.length]? = some (.cells [V.t (I g.rule), p.1, V.t (I g.from_), p.2.1, p.2.2] 0 0) := by
   rw [q4.2 _ (by simp; omega) (by simp; omega), List.getElem?_append_left (by omega)]; exact hbx
  have hby2 : τ2[σ.length + 1]? = some (.cells [V.t (.str nm), V.t ps, V.t az] 0 0) := by
   rw [q4.2 _ (by simp; omega) (by simp; omega), List.getElem?_append_left (by omega)]; exact hby
  have hbxA : ∀ o, (τ ++ o)[σ.length]? = some (.cells [V.t (I g.rule), p.1, V.t (I g.from_), p.2.1, p.2.2] 0 0) := fun o => by rw [List.getElem?_append_left (by omega)]; exact hbx
  have hbyA : ∀ o, (τ ++ o)[σ.length + 1]? = some (.cells [V.t (.str nm), V.t ps, V.t az] 0 0) := fun o => by rw [List.getElem?_append_left (by omega)]; exact hby
  have pfa : S.pf 68 = false := rfl
  have pfb : S.pf 69 = false := rfl
  repeat apply W_seq
  refine W_regD (fun _ => true) rfl rfl rfl (fun b hb => by
   simp (maxDischargeDepth := 12) [runOpsD, loadOf, chkH, live_all, okL_live, okL_nil, okL_cons, okAt_load, hby, hbx, hix, hen', buildAt, q1, pfa, pfb, hbx2, hby2, hbxA, hbyA, sliceCells, repZero, fillV, setRange]
   first | exact ⟨rfl, rfl⟩ | exact rfl) ?_
  try simp only [thenQ, blockQ, Ann.kill, List.find?_nil]
  have hbf2 : τ2[σ.length + 2]? = some (.cells (bools f) 0 0) := by
   rw [q4.2 _ (by simp; omega) (by simp; omega), List.getElem?_append_left (by omega)]; exact hbf
  have hF2 : Fr [r, gl] τ τ2 := (Fr.app [r, gl] τ _).trans q4 (fun j hj => .inl hj)
  have hd' := q2.not_bools hbf2 (by omega)
  have hnot := q3.rd.not_bools hbf2 (by omega)
  clear q1 hen' hen hAt Rb hbxA hbyA
  repeat apply W_seq
  refine W_region (by simp; first | exact ⟨rfl, rfl⟩ | exact rfl) ?_
  try simp only [thenQ, blockQ, Ann.kill, List.find?_nil]
  repeat apply W_seq
  refine W_block ?_
  refine W_loop (I := fun m st τ3 => ∃ j f3, m = l.length - j ∧ j ≤ l.length ∧ f3.length = text.length + 1 ∧ markS (l.drop j) f3 = some f' ∧ st.vars = [(0, .ptr r 0 0 6), (1, .t (I i)), (4, .ptr σ.length 0 0 5), (5, .ptr (σ.length + 1) 0 0 3), (6, .sl (σ.length + 2) 0 0 (text.length + 1) 1), (7, .t (I k)), (8, v'), (9, .t (I j))] ∧ τ3[σ.length + 2]? = some (.cells (bools f3) 0 0) ∧ Fr [σ.length + 2] τ2 τ3) ?_ l.length _ _ ⟨0, f, rfl, Nat.zero_le _, hfl, hmark, by simp, hbf2, Fr.refl _ _⟩
  clear hmark hbf2
  rintro m ⟨vars, scr⟩ τ3 ⟨j, f3, rfl, hj, hfl3, hmark, hvs, hbf3, hF3⟩
  simp only at hvs
  subst hvs
  have l2 := q3.lt
  have ld' := q2.lt
  have hAt3 : AtS τ3 v' d' l := q2.keep (hF3.2 d' ld' (by simpa using hd'))
  repeat apply W_seq
  refine W_region (by simp [hAt3.rd.len]; first | exact ⟨rfl, rfl⟩ | exact rfl) ?_
  try simp only [thenQ, blockQ, Ann.kill, List.find?_nil]
  by_cases d2 : j < l.length
  ·repeat apply W_seq
   refine W_cond (t := true) (by simp [d2]) ?_
   simp only [if_true, if_false, Bool.false_eq_true]
   refine W_skip ?_
   try simp only [thenQ, blockQ, Ann.kill, List.find?_nil]
   repeat apply W_seq
   refine W_block ?_
   obtain ⟨a, ha⟩ := get_of_lt d2
   obtain ⟨e1, e2⟩ := cellsA_get ha
   have hcl := cellsA_len l
   have hsz : j * 2 + 1 ≤ l.length * 2 := by omega
   have hj1 : (j : Int) < l.length := by omega
   rw [drop_get ha] at hmark
   simp only [markS] at hmark
   split at hmark
   rotate_left
   ·cases hmark
   rename_i hpos
   obtain ⟨gA, wA, rfl, hA1, hA2⟩ := hAt3
   have hp1 : (a.1 : Int) < (text.length : Int) + 1 := by omega
   have hp2 : a.1 + 1 ≤ text.length + 1 := by omega
   repeat apply W_seq
   refine W_region (by simp [hA1, hcl, hsz, hj1, hA2, e1, hbf3, hfl3, hp1, hp2, setRange]; first | exact ⟨rfl, rfl⟩ | exact rfl) ?_
   try simp only [thenQ, blockQ, Ann.kill, List.find?_nil]
   repeat apply W_seq
   refine W_region (by simp [IntWalk.i64_in ((j : Int) + 1) (by omega)]; first | exact ⟨rfl, rfl⟩ | exact rfl) ?_
   try simp only [thenQ, blockQ, Ann.kill, List.find?_nil]
   refine ⟨l.length - (j + 1), by omega, j + 1, f3.set a.1 true, rfl, d2, by simpa using hfl3, hmark, by simp, ?_, hF3.trans (own2 := [σ.length + 2]) ⟨by simp, fun x hx hn => List.getElem?_set_ne (fun e => hn (by simp [e]))⟩ (fun x hx => .inl hx)⟩
   rw [List.getElem?_set_self (lt_of_get hbf3)]
   exact congrArg (fun c => some (V.Obj.cells c 0 0)) (bools_set f3 a.1 true)
  ·repeat apply W_seq
   refine W_cond (t := false) (by simp [d2]) ?_
   simp only [if_true, if_false, Bool.false_eq_true]
   repeat apply W_seq
   refine W_exit ?_
   try simp only [thenQ, blockQ, if_true, Ann.kill, List.find?_nil]
   have : j = l.length := by omega
   subst this
   rw [List.drop_length] at hmark
   simp only [markS, Option.some.injEq] at hmark
   subst hmark
   repeat apply W_seq
   refine W_region (by simp [IntWalk.i64_in ((k : Int) + 1) (by omega)]; first | exact ⟨rfl, rfl⟩ | exact rfl) ?_
   try simp only [thenQ, blockQ, Ann.kill, List.find?_nil]
   have R3 := q3.fr1 (d := σ.length + 2) (σ' := τ3) (fun x hx hn => hF3.2 x hx (by simpa using hn)) (by omega) (by omega) hnot
   have hF4 : Fr [r, gl] σ τ3 := (hF.trans hF2 (fun x hx => .inl hx)).trans hF3 (fun x hx => by simp only [List.mem_singleton] at hx; exact .inr (by omega))
   exact ⟨al.length - (k + 1), by omega, k + 1, f3, s2, v2, rfl, d1, hfl3, hl, by simp, hbf3, R3, hF4, by rw [hF3.2 _ (lt_of_get hbx2) (by simp)]; exact hbx2, by rw [hF3.2 _ (lt_of_get hby2) (by simp)]; exact hby2⟩
 ·repeat apply W_seq
  refine W_cond (t := false) (by simp [d1]) ?_
  simp only [if_true, if_false, Bool.false_eq_true]
  repeat apply W_seq
  refine W_exit ?_
  try simp only [thenQ, blockQ, if_true, Ann.kill, List.find?_nil]
  have : k = al.length := by omega
  subst this
  rw [List.drop_length] at hl
  simp only [looksS, Option.some.injEq, Prod.mk.injEq] at hl
  obtain ⟨rfl, rfl⟩ := hl
  have rer : Rd τ p.2.1 g.ends := re.keep fun j hj => hF.2 j (re.locs j hj) (by have := R.apart j (mem_locsP hp j (.inr (.inl hj))); simp [this])
  have hap : ∀ j ∈ locV p.2.1, j ≠ r ∧ j ≠ gl := fun j hj => R.apart j (mem_locsP hp j (.inr (.inl hj)))
  have lx := lt_of_get hbx
  repeat apply W_seq
  refine W_region (by simp; first | exact ⟨rfl, rfl⟩ | exact rfl) ?_
  try simp only [thenQ, blockQ, Ann.kill, List.find?_nil]
  repeat apply W_seq
  refine W_block ?_
  refine W_loop (I := fun m st τ2 => ∃ q sq vq, m = f.length - q ∧ q ≤ f.length ∧ addsS i g.ends (f.drop q) q sq = some s' ∧ st.vars = [(0, .ptr r 0 0 6), (1, .t (I i)), (4, .ptr σ.length 0 0 5), (5, .ptr (σ.length + 1) 0 0 3), (6, .sl (σ.length + 2) 0 0 (text.length + 1) 1), (10, .t (I q))] ∧ Rep (.list rules) text r gl τ2 vq sq ∧ Fr [r, gl] τ τ2) ?_ f.length _ _ ⟨0, sk, vk, rfl, Nat.zero_le _, h, by simp, Rk, Fr.refl _ _⟩
  clear h
  rintro m ⟨vars, scr⟩ τ2 ⟨q, sq, vq, rfl, hq, h, hvs, Rq, hF2⟩
  simp only at hvs
  subst hvs
  have lbf := lt_of_get hbf
  have hbf2 : τ2[σ.length + 2]? = some (.cells (bools f) 0 0) := by rw [hF2.2 _ lbf (by simp; omega)]; exact hbf
  have hbx2 : τ2[σ.length]? = some (.cells [V.t (I g.rule), p.1, V.t (I g.from_), p.2.1, p.2.2] 0 0) := by rw [hF2.2 _ lx (by simp; omega)]; exact hbx
  have re2 : Rd τ2 p.2.1 g.ends := rer.keep fun j hj => hF2.2 j (rer.locs j hj) (by have := hap j hj; simp [this])
  repeat apply W_seq
  refine W_region (by simp; first | exact ⟨rfl, rfl⟩ | exact rfl) ?_
  try simp only [thenQ, blockQ, Ann.kill, List.find?_nil]
  by_cases d2 : q < f.length
  ·repeat apply W_seq
   refine W_cond (t := true) (by simp [show (q : Int) < (text.length : Int) + 1 by omega]) ?_
   simp only [if_true, if_false, Bool.false_eq_true]
   refine W_skip ?_
   try simp only [thenQ, blockQ, Ann.kill, List.find?_nil]
   repeat apply W_seq
   refine W_block ?_
   obtain ⟨b, hbq⟩ := get_of_lt d2
   rw [drop_get hbq] at h
   simp only [addsS] at h
   have hp2 : q + 1 ≤ text.length + 1 := by omega
   have hp1 : (q : Int) < (text.length : Int) + 1 := by omega
   have hin := inL_ld re2 q (by omega)
   cases b with
   | false =>
    simp only [Bool.false_and, Bool.false_eq_true, if_false] at h
    repeat apply W_seq
    refine W_region (by simp [hbf2, hfl, hp1, hp2, hbq]; first | exact ⟨rfl, rfl⟩ | exact rfl) ?_
    try simp only [thenQ, blockQ, Ann.kill, List.find?_nil]
    repeat apply W_seq
    refine W_cond (t := false) (by simp) ?_
    simp only [if_true, if_false, Bool.false_eq_true]
    refine W_skip ?_
    try simp only [thenQ, blockQ, Ann.kill, List.find?_nil]
    repeat apply W_seq
    refine W_region (by simp [IntWalk.i64_in ((q : Int) + 1) (by omega)]; first | exact ⟨rfl, rfl⟩ | exact rfl) ?_
    try simp only [thenQ, blockQ, Ann.kill, List.find?_nil]
    exact ⟨f.length - (q + 1), by omega, q + 1, sq, vq, rfl, d2, h, by simp, Rq, hF2⟩
   | true =>
    cases hc : g.ends.contains q with
    | true =>
     rw [hc] at h hin
     simp only [Bool.not_true, Bool.and_false, Bool.false_eq_true, if_false] at h
     repeat apply W_seq
     refine W_region (by simp [hbf2, hfl, hp1, hp2, hbq, hbx2, hin]; first | exact ⟨rfl, rfl⟩ | exact rfl) ?_
     try simp only [thenQ, blockQ, Ann.kill, List.find?_nil]
     repeat apply W_seq
     refine W_cond (t := false) (by simp) ?_
     simp only [if_true, if_false, Bool.false_eq_true]
     refine W_skip ?_
     try simp only [thenQ, blockQ, Ann.kill, List.find?_nil]
     repeat apply W_seq
     refine W_region (by simp [IntWalk.i64_in ((q : Int) + 1) (by omega)]; first | exact ⟨rfl, rfl⟩ | exact rfl) ?_
     try simp only [thenQ, blockQ, Ann.kill, List.find?_nil]
     exact ⟨f.length - (q + 1), by omega, q + 1, sq, vq, rfl, d2, h, by simp, Rq, hF2⟩
    | false =>
     rw [hc] at h hin
     simp only [Bool.not_false, Bool.and_true, if_true] at h
     split at h
     ·cases h
     rename_i s3 hadd
     obtain ⟨τ3, v3, a1, a2, a3⟩ := add_ld Rq i q hadd
     repeat apply W_seq
     refine W_region (by simp [hbf2, hfl, hp1, hp2, hbq, hbx2, hin]; first | exact ⟨rfl, rfl⟩ | exact rfl) ?_
     try simp only [thenQ, blockQ, Ann.kill, List.find?_nil]
     repeat apply W_seq
     refine W_cond (t := true) (by simp) ?_
     simp only [if_true, if_false, Bool.false_eq_true]
     repeat apply W_seq
     refine W_region (by simp [a1]; first | exact ⟨rfl, rfl⟩ | exact rfl) ?_
     try simp only [thenQ, blockQ, Ann.kill, List.find?_nil]
     repeat apply W_seq
     refine W_region (by simp [IntWalk.i64_in ((q : Int) + 1) (by omega)]; first | exact ⟨rfl, rfl⟩ | exact rfl) ?_
     try simp only [thenQ, blockQ, Ann.kill, List.find?_nil]
     exact ⟨f.length - (q + 1), by omega, q + 1, s3, v3, rfl, d2, h, by simp, a2, hF2.trans a3 (fun j hj => .inl hj)⟩
  ·repeat apply W_seq
   refine W_cond (t := false) (by simp [show ¬ (q : Int) < (text.length : Int) + 1 by omega]) ?_
   simp only [if_true, if_false, Bool.false_eq_true]
   repeat apply W_seq
   refine W_exit ?_
   try simp only [thenQ, blockQ, if_true, Ann.kill, List.find?_nil]
   have : q = f.length := by omega
   subst this
   rw [List.drop_length] at h
   simp only [addsS, Option.some.injEq] at h
   subst h
   exact ⟨trivial, _, (by simp [Tryz.f52]), rfl, vq, Rq, hF.trans hF2 (fun j hj => .inl hj)⟩
end X
