/- A part of the proof. No statement of the claim is in it. -/
import Derived.Test.YtphkipgmklhdgaaGreatVEr8
open Go Go.V Go.Proofs
namespace X
set_option maxRecDepth 100000
set_option maxHeartbeats 4000000
set_option linter.unusedSimpArgs false
set_option linter.unusedVariables false
attribute [-simp] lenV idxV getElem?_pos
/-! ### The first goal -/
theorem goal0_ld {rules : T} {text : List Nat} {r d : Nat} {σ : Store} (hr : σ[r]? = some (.cells [.t rules, .t (.str text), .t .nils, .t (I 0), .t (B true), .t (B false)] 0 0)) (ru : Nat) {y : V} {al : List Nat} (hy : IntS σ y d al) (hd : d ≠ r) (here : Nat) (ha : al.length ≤ 1048576) :
  ∃ gl σ' vs', LD S 51 [.ptr r 0 0 6, .t (I ru), y, .t (I here)] σ = some (.t (I 0), σ') ∧ Rep rules text r gl σ' vs' ⟨[⟨ru, al, here, [], []⟩], 0, true, false⟩ ∧ Fr [r] σ σ' ∧ σ.length ≤ gl := by
 have lr := lt_of_get hr
 obtain ⟨yg, yw, rfl, y1, y2⟩ := hy
 have ld := lt_of_get y1
 have hat := find_nil ru
 suffices hh : ∃ v σ', LV S 51 [.ptr r 0 0 6, .t (I ru), .sl d yg 0 al.length 1, .t (I here)] σ = some (v, σ') ∧ v = .t (I 0) ∧ ∃ gl vs', Rep rules text r gl σ' vs' ⟨[⟨ru, al, here, [], []⟩], 0, true, false⟩ ∧ Fr [r] σ σ' ∧ σ.length ≤ gl by
  obtain ⟨v, σ', h1, rfl, gl, vs', h2⟩ := hh
  exact ⟨gl, σ', vs', by rw [LD_inl (A := A51) rfl rfl rfl]; exact h1, h2⟩
 refine LV_bodyX (A := A51) rfl Tryz.func51 rfl ?_
 obtain ⟨x, hf1, hf2⟩ := frz_rd 38 (v := .sl d yg 0 al.length 1) (l := al) (.inr (.inr ⟨d, yg, yw, rfl, y1, y2⟩))
 have hat2 : LD S 67 [.t .nils, .t (I ru), .sl d yg 0 al.length 1, .t (I here)] σ = some (.t (I (-1)), σ) := by
  refine LD_borrow (A := A67) rfl rfl (σ0 := []) (ts := [.nils, I ru, x, I here]) ?_ ?_ rfl
  ·have t1 : ∀ z : T, frz 40 σ (.t z) = some z := fun z => rfl
   simp only [frzs, t1, hf1]
  ·refine LV_body (A := A67) rfl Tryz.func67 rfl ?_
   repeat apply W_seq
   refine W_region (by simp; first | exact ⟨rfl, rfl⟩ | exact rfl) ?_
   try simp only [thenQ, blockQ, Ann.kill, List.find?_nil]
   repeat apply W_seq
   refine W_region (by simp; first | exact ⟨rfl, rfl⟩ | exact rfl) ?_
   try simp only [thenQ, blockQ, Ann.kill, List.find?_nil]
   repeat apply W_seq
   refine W_block ?_
   refine W_loop_step ?_
   repeat apply W_seq
   refine W_region (by simp; first | exact ⟨rfl, rfl⟩ | exact rfl) ?_
   try simp only [thenQ, blockQ, Ann.kill, List.find?_nil]
   repeat apply W_seq
   refine W_cond (t := false) (by simp) ?_
   simp only [if_true, if_false, Bool.false_eq_true]
   repeat apply W_seq
   refine W_exit ?_
   try simp only [thenQ, blockQ, if_true, Ann.kill, List.find?_nil]
   repeat apply W_seq
   refine W_region (by simp; first | exact ⟨rfl, rfl⟩ | exact rfl) ?_
   try simp only [thenQ, blockQ, Ann.kill, List.find?_nil]
   refine W_ret ?_
   try simp only [thenQ, blockQ]
   simp [Tryz.f67]
 repeat apply W_seq
 refine W_region (by simp; first | exact ⟨rfl, rfl⟩ | exact rfl) ?_
 try simp only [thenQ, blockQ, Ann.kill, List.find?_nil]
 repeat apply W_seq
 refine W_region (by simp [hr, hat2]; first | exact ⟨rfl, rfl⟩ | exact rfl) ?_
 try simp only [thenQ, blockQ, Ann.kill, List.find?_nil]
 repeat apply W_seq
 refine W_region (by simp; first | exact ⟨rfl, rfl⟩ | exact rfl) ?_
 try simp only [thenQ, blockQ, Ann.kill, List.find?_nil]
 repeat apply W_seq
 refine W_cond (t := false) (by simp) ?_
 simp only [if_true, if_false, Bool.false_eq_true]
 refine W_skip ?_
 try simp only [thenQ, blockQ, Ann.kill, List.find?_nil]
 repeat apply W_seq
 refine W_region (by simp [hr]; first | exact ⟨rfl, rfl⟩ | exact rfl) ?_
 try simp only [thenQ, blockQ, Ann.kill, List.find?_nil]
 repeat apply W_seq
 refine W_cond (t := false) (by simp) ?_
 simp only [if_true, if_false, Bool.false_eq_true]
 refine W_skip ?_
 try simp only [thenQ, blockQ, Ann.kill, List.find?_nil]
 repeat apply W_seq
 refine W_region (by simp [hr, buildV, fieldSizes, fillV, appendV, srcCells, sliceCells, repZero, rowCells, chunk, mkAgg, allT, setRange, List.getElem?_append, lr]; first | exact ⟨rfl, rfl⟩ | exact rfl) ?_
 try simp only [thenQ, blockQ, Ann.kill, List.find?_nil]
 repeat apply W_seq
 refine W_region (by simp [List.getElem?_append, lr, List.getElem?_set_self]; first | exact ⟨rfl, rfl⟩ | exact rfl) ?_
 try simp only [thenQ, blockQ, Ann.kill, List.find?_nil]
 repeat apply W_seq
 refine W_region (by simp [List.getElem?_append, lr, List.getElem?_set_self]; first | exact ⟨rfl, rfl⟩ | exact rfl) ?_
 try simp only [thenQ, blockQ, Ann.kill, List.find?_nil]
 refine W_ret ?_
 try simp only [thenQ, blockQ]
 have hw : IntKind.i64.wrap 0 = 0 := by decide
 have hL : (σ.set r (V.Obj.cells [V.t rules, V.t (T.str text), V.sl (σ.length + 1) 0 0 1 5, V.t (I 0), V.t (T.bool true), V.t (B false)] 0 0)).length = σ.length := by simp
 refine ⟨trivial, .t (I 0), (by simp [Tryz.f51, hw]), rfl, σ.length + 1, [(.sl d yg 0 al.length 1, .t .nils, .t .nils)], ⟨⟨0, 0, Nat.le_refl _, ?_, ?_⟩, ⟨rfl, fun i g p hg hp => ?_⟩, by omega, fun j hj => ?_, fun g hg => ?_⟩, ⟨by simp, fun i hi hn => ?_⟩, by omega⟩
 ·rw [List.getElem?_append_left (by omega), List.getElem?_set_self lr]
  rfl
 ·rw [List.getElem?_append_right (by omega), hL, Nat.add_sub_cancel_left]
  rfl
 ·cases i with
  | zero =>
   simp only [List.getElem?_cons_zero, Option.some.injEq] at hg hp
   subst hg hp
   exact ⟨.inr (.inr ⟨d, yg, yw, rfl, by rw [List.getElem?_append_left (by omega), List.getElem?_set_ne (Ne.symm hd)]; exact y1, y2⟩), .inl ⟨rfl, rfl⟩, .inl ⟨rfl, rfl⟩⟩
  | succ i => simp at hg
 ·simp [locsP, locV] at hj
  subst hj
  exact ⟨hd, by omega⟩
 ·simp only [List.mem_singleton] at hg
  subst hg
  exact ha
 ·rw [List.getElem?_append_left (by omega), List.getElem?_set_ne (fun e => hn (by simp [e]))]
/-! ### Rounds -/
def passS (K : Kn) (rules : List T) (text : List Nat) : Nat → Nat → Rs → Option Rs
 | 0, _, _ => none
 | f + 1, i, s => if i < s.goals.length ∧ s.full = false then
   if s.goals.length ≤ 1000 then match lookS K rules text s i with
    | none => none
    | some s' => passS K rules text f (i + 1) s'
   else none
  else some s
def roundS (K : Kn) (rules : List T) (text : List Nat) (f : Nat) : Nat → Rs → Option Rs
 | 0, _ => none
 | n + 1, s => if s.fresh = true ∧ s.full = false then match passS K rules text f 0 { s with fresh := false } with
   | none => none
   | some s' => roundS K rules text f n s'
  else some s
/-- what a run is: none; or the goals -/
def chartT (o : Option (List Gl)) (x : T) : Prop := match o with
 | some gs => ∃ rows, x = .tup [.agg [.list rows], B true] ∧ GRows gs rows
 | none => x = .tup [.agg [.nils], B false]
def outS (s : Rs) : Option (List Gl) := if s.full then none else some s.goals
theorem Rep.fresh {rules : T} {text : List Nat} {r gl : Nat} {σ : Store} {vs : List V3} {s : Rs} (R : Rep rules text r gl σ vs s) {gg : Nat} (hr : σ[r]? = some (rnObj rules text (.sl gl gg 0 s.goals.length 5) s)) (b : Bool) : Rep rules text r gl (σ.set r (rnObj rules text (.sl gl gg 0 s.goals.length 5) { s with fresh := b })) vs { s with fresh := b } := by
 have lr := lt_of_get hr
 obtain ⟨gg', gw, h0, h1, h2⟩ := R.run
 have e : gg' = gg := by
  rw [hr] at h1
  simp [rnObj] at h1
  exact h1.symm
 subst e
 refine ⟨⟨gg', gw, h0, List.getElem?_set_self lr, ?_⟩, R.rd.keep fun j hj => List.getElem?_set_ne (Ne.symm (R.apart j hj).1), R.ne, R.apart, R.args⟩
 rw [List.getElem?_set_ne R.ne]; exact h2

theorem args_ints {x : T} {al : List Nat} (h : Is x al) (σ : Store) : srcCells σ 1 (.t x) = some (al.length, ints al) := by
 rcases h with ⟨rfl, rfl⟩ | rfl
 ·rfl
 ·simp only [srcCells, rowCells1]; simp

theorem app_args {x : T} {al : List Nat} (hx : Is x al) (hl : al.length ≤ 1000) (a b c : V.Obj) : ∃ g, appendV S.ty [a, b, c, .cells [] 0 0] [49, 49] (.sl 3 0 0 0 1) (.t x) = some (.sl 3 g 0 al.length 1, [a, b, c, .cells (ints al) g 0]) := by
 have hs := args_ints hx
 cases al with
 | nil => exact ⟨0, by simp [appendV, hs]; rfl⟩
 | cons n l =>
  have hb : (l.length + 1) * 8 ≤ 140737488355328 := by simp at hl; omega
  exact ⟨1, by simp [appendV, hs, hb]⟩
theorem get_set {σ : Store} {i : Nat} (h : i < σ.length) (o : V.Obj) : (σ.set i o)[i]? = some o := List.getElem?_set_self h
/-- a cell that holds no numbers is no slice of numbers -/
theorem Rep.not_nils {rules : T} {text : List Nat} {r gl d : Nat} {σ : Store} {vs : List V3} {s : Rs} (R : Rep rules text r gl σ vs s) (hd : σ[d]? = some (.cells [.t .nils] 0 0)) : ¬ d ∈ locsP vs := by
 intro hm
 obtain ⟨p, hp, hj⟩ := List.mem_flatMap.1 hm
 obtain ⟨i, hi⟩ := List.getElem?_of_mem hp
 obtain ⟨gl, hg⟩ := get_of_lt (show i < s.goals.length by rw [← R.rd.1]; exact lt_of_get hi)
 obtain ⟨h1, h2, h3⟩ := R.rd.2 i gl p hg hi
 have key : ∀ {v : V} {l : List Nat}, Rd σ v l → d ∈ locV v → False := by
  intro v l hr hm
  rcases hr with ⟨rfl, _⟩ | rfl | ⟨d', g', w', rfl, q1, q2⟩
  ·simp [locV] at hm
  ·simp [locV] at hm
  ·simp only [locV, List.mem_singleton] at hm
   subst hm
   rw [hd] at q1
   simp only [Option.some.injEq, V.Obj.cells.injEq] at q1
   have e := q1.1
   cases l with
   | nil => simp [ints] at e
   | cons n l => simp [ints] at e
 simp only [List.mem_append] at hj
 rcases hj with hj | hj | hj
 ·exact key h1 hj
 ·exact key h2 hj
 ·exact key h3 hj
structure RunOk (K : Kn) (rules : List T) (text : List Nat) (nm : List Nat) (ru : Nat) (al : List Nat) (fr : Nat) : Prop where
 k : KnOk K (.list rules) text
 gok : ∀ σ, LD S 49 [.t (.agg [.list rules])] σ = some (.t (B true), σ)
 ruleAt : K.ruleAt nm = some ru
 rule : ∃ n ps az pl, rules[ru]? = some (.agg [n, ps, az]) ∧ symsL ps = some pl ∧ pl.length = al.length
 len : text.length ≤ 12
 from_ : fr ≤ text.length
 args : al.length ≤ 1000 ∧ ∀ a ∈ al, a ≤ 99
theorem run_lv {K : Kn} {rules : List T} {text nm : List Nat} {ru : Nat} {x : T} {al : List Nat} {fr : Nat} (H : RunOk K rules text nm ru al fr) (hx : Is x al) {f : Nat} {s' : Rs} (h : roundS K rules text f f ⟨[⟨ru, al, fr, [], []⟩], 0, true, false⟩ = some s') :
  ∃ v σ', LV S 34 [.t (.agg [.list rules]), .t (.str text), .t (.str nm), .t x, .t (I fr)] [] = some (v, σ') ∧ ∃ y, frz 40 σ' v = some y ∧ chartT (outS s') y := by
 obtain ⟨n, ps, az, pl, hrule, hps, hpl⟩ := H.rule
 have e1 := H.k.ruleAt _ _ H.ruleAt
 have e2 := H.gok
 have e3 := fun σ => in_ld fr 0 text.length σ
 have ei : inF (fr : Int) 0 (text.length : Int) = true := by
  have := H.from_
  simp [inF]; omega
 rw [ei] at e3
 have hpsy := symsL_eq hps
 have hlp : ∀ (σ : Store) (e : TypeId), lenV σ (.slice e) (.t ps) = some (al.length : Int) := fun σ e => by rw [hpsy.len, hpl]
 have ht : ¬ (12 : Int) < (text.length : Int) := by have := H.len; omega
 have hr0 : ¬ (ru : Int) < 0 := by omega
 obtain ⟨ha1, ha2⟩ := H.args
 refine LV_bodyX (A := A34) rfl Tryz.func34 rfl ?_
 repeat apply W_seq
 refine W_region (by simp; first | exact ⟨rfl, rfl⟩ | exact rfl) ?_
 try simp only [thenQ, blockQ, Ann.kill, List.find?_nil]
 repeat apply W_seq
 refine W_region (by simp [e1]; first | exact ⟨rfl, rfl⟩ | exact rfl) ?_
 try simp only [thenQ, blockQ, Ann.kill, List.find?_nil]
 repeat apply W_seq
 refine W_region (by simp [e2, e3, hx.len, hlp, hrule, ht, hr0]; first | exact ⟨rfl, rfl⟩ | exact rfl) ?_
 try simp only [thenQ, blockQ, Ann.kill, List.find?_nil]
 repeat apply W_seq
 refine W_cond (t := false) (by simp) ?_
 simp only [if_true, if_false, Bool.false_eq_true]
 refine W_skip ?_
 try simp only [thenQ, blockQ, Ann.kill, List.find?_nil]
 repeat apply W_seq
 refine W_region (by simp; first | exact ⟨rfl, rfl⟩ | exact rfl) ?_
 try simp only [thenQ, blockQ, Ann.kill, List.find?_nil]
 repeat apply W_seq
 refine W_block ?_
 refine W_loop (I := fun m st τ => ∃ k, m = al.length - k ∧ k ≤ al.length ∧ st.vars = [(0, .t (.agg [.list rules])), (1, .t (.str text)), (2, .t (.str nm)), (3, .t x), (4, .t (I fr)), (5, .ptr 0 0 0 1), (10, .ptr 1 0 0 1), (11, .t (B false)), (12, .t (I ru)), (13, .t (I k))] ∧ τ = [.cells [.t (.list rules)] 0 0, .cells [.t .nils] 0 0]) ?_ al.length _ _ ⟨0, rfl, Nat.zero_le _, by simp, rfl⟩
 rintro m ⟨vars, scr⟩ τ ⟨k, rfl, hk, hvs, rfl⟩
 simp only at hvs
 subst hvs
 repeat apply W_seq
 refine W_region (by simp [hx.len]; first | exact ⟨rfl, rfl⟩ | exact rfl) ?_
 try simp only [thenQ, blockQ, Ann.kill, List.find?_nil]
 by_cases c1 : k < al.length
 ·repeat apply W_seq
  refine W_cond (t := true) (by simp [c1]) ?_
  simp only [if_true, if_false, Bool.false_eq_true]
  refine W_skip ?_
  try simp only [thenQ, blockQ, Ann.kill, List.find?_nil]
  repeat apply W_seq
  refine W_block ?_
  obtain ⟨a, hak⟩ := get_of_lt c1
  have hin := fun σ => in_ld a 0 99 σ
  have ea : inF (a : Int) 0 99 = true := by
   have := ha2 a (List.mem_of_getElem? hak)
   simp [inF]; omega
  rw [ea] at hin
  repeat apply W_seq
  refine W_region (by simp [hx.idx hak, hin]; first | exact ⟨rfl, rfl⟩ | exact rfl) ?_
  try simp only [thenQ, blockQ, Ann.kill, List.find?_nil]
  repeat apply W_seq
  refine W_cond (t := false) (by simp) ?_
  simp only [if_true, if_false, Bool.false_eq_true]
  refine W_skip ?_
  try simp only [thenQ, blockQ, Ann.kill, List.find?_nil]
  repeat apply W_seq
  refine W_region (by simp [IntWalk.i64_in ((k : Int) + 1) (by omega)]; first | exact ⟨rfl, rfl⟩ | exact rfl) ?_
  try simp only [thenQ, blockQ, Ann.kill, List.find?_nil]
  exact ⟨al.length - (k + 1), by omega, k + 1, rfl, c1, by simp, by simp⟩
 ·repeat apply W_seq
  refine W_cond (t := false) (by simp [c1]) ?_
  simp only [if_true, if_false, Bool.false_eq_true]
  repeat apply W_seq
  refine W_exit ?_
  try simp only [thenQ, blockQ, if_true, Ann.kill, List.find?_nil]
  repeat apply W_seq
  refine W_region (by simp [buildV, fieldSizes, fillV, setRange, repZero]; first | exact ⟨rfl, rfl⟩ | exact rfl) ?_
  try simp only [thenQ, blockQ, Ann.kill, List.find?_nil]
  obtain ⟨ga, happ⟩ := app_args hx ha1 (.cells [.t (.list rules)] 0 0) (.cells [.t .nils] 0 0) (.cells [.t (.list rules), .t (.str text), .t .nils, .t (I 0), .t (B true), .t (B false)] 0 0)
  obtain ⟨gl, τ1, vs1, g1, R1, F1, lgl⟩ := goal0_ld (rules := .list rules) (text := text) (r := 2) (d := 3) (σ := [.cells [.t (.list rules)] 0 0, .cells [.t .nils] 0 0, .cells [.t (.list rules), .t (.str text), .t .nils, .t (I 0), .t (B true), .t (B false)] 0 0, .cells (ints al) ga 0]) rfl ru (y := .sl 3 ga 0 al.length 1) ⟨ga, 0, rfl, rfl, Nat.zero_le _⟩ (by decide) fr (by omega)
  repeat apply W_seq
  refine W_region (by simp [sliceCells, repZero, chunk, fillV, happ, g1]; first | exact ⟨rfl, rfl⟩ | exact rfl) ?_
  try simp only [thenQ, blockQ, Ann.kill, List.find?_nil]
  have lgl' : 4 ≤ gl := lgl
  have t1 : τ1[1]? = some (.cells [.t .nils] 0 0) := by rw [F1.2 1 (by simp) (by decide)]; rfl
  have lt1 := lt_of_get t1
  clear g1 happ
  repeat apply W_seq
  refine W_block ?_
  refine W_loop (I := fun m st τ => ∃ sk vk, roundS K rules text f m sk = some s' ∧ st.vars = [(0, .t (.agg [.list rules])), (1, .t (.str text)), (2, .t (.str nm)), (3, .t x), (4, .t (I fr)), (5, .ptr 0 0 0 1), (10, .ptr 1 0 0 1), (11, .t (B false)), (12, .t (I ru)), (14, .ptr 2 0 0 6)] ∧ Rep (.list rules) text 2 gl τ vk sk ∧ Fr [2, gl] τ1 τ) ?_ f _ _ ⟨_, vs1, h, by simp, R1, Fr.refl _ _⟩
  clear h R1 F1
  rintro m ⟨vars, scr⟩ τ ⟨sk, vk, h, hvs, Rk, Fk⟩
  simp only at hvs
  subst hvs
  cases m with
  | zero => cases h
  | succ n =>
  simp only [roundS] at h
  obtain ⟨gg, gw, hw, hr, hg⟩ := Rk.run
  have hr0 := hr
  simp only [rnObj] at hr
  by_cases c2 : sk.fresh = true ∧ sk.full = false
  ·rw [if_pos c2] at h
   split at h
   ·cases h
   rename_i s2 hpass
   rw [c2.1, c2.2] at hr
   repeat apply W_seq
   refine W_region (by simp [hr]; first | exact ⟨rfl, rfl⟩ | exact rfl) ?_
   try simp only [thenQ, blockQ, Ann.kill, List.find?_nil]
   repeat apply W_seq
   refine W_cond (t := true) (by simp) ?_
   simp only [if_true, if_false, Bool.false_eq_true]
   refine W_skip ?_
   try simp only [thenQ, blockQ, Ann.kill, List.find?_nil]
   repeat apply W_seq
   refine W_block ?_
   repeat apply W_seq
   refine W_region (by simp [hr]; first | exact ⟨rfl, rfl⟩ | exact rfl) ?_
   try simp only [thenQ, blockQ, Ann.kill, List.find?_nil]
   have Rf := Rk.fresh hr0 false
   have Ff : Fr [2, gl] τ1 (τ.set 2 (rnObj (.list rules) text (.sl gl gg 0 sk.goals.length 5) { sk with fresh := false })) := Fk.trans (own2 := [2, gl]) ⟨by simp, fun j hj hn => List.getElem?_set_ne (fun e => hn (by simp [e]))⟩ (fun j hj => .inl hj)
   simp only [rnObj, c2.2] at Rf Ff
   revert Rf Ff
   generalize τ.set 2 (.cells [.t (.list rules), .t (.str text), .sl gl gg 0 sk.goals.length 5, .t (I sk.rank), .t (B false), .t (B false)] 0 0) = τ2
   intro Rf Ff
   repeat apply W_seq
   refine W_region (by simp; first | exact ⟨rfl, rfl⟩ | exact rfl) ?_
   try simp only [thenQ, blockQ, Ann.kill, List.find?_nil]
   repeat apply W_seq
   refine W_block ?_
   refine W_loop (I := fun m st τ => ∃ i s3 v3, i ≤ 1000 ∧ passS K rules text m i s3 = some s2 ∧ st.vars = [(0, .t (.agg [.list rules])), (1, .t (.str text)), (2, .t (.str nm)), (3, .t x), (4, .t (I fr)), (5, .ptr 0 0 0 1), (10, .ptr 1 0 0 1), (11, .t (B false)), (12, .t (I ru)), (14, .ptr 2 0 0 6), (15, .t (I i))] ∧ Rep (.list rules) text 2 gl τ v3 s3 ∧ Fr [2, gl] τ1 τ) ?_ f _ _ ⟨0, { sk with fresh := false }, vk, by omega, by rw [← c2.2] at hpass ⊢; exact hpass, by simp, by rw [c2.2]; exact Rf, Ff⟩
   clear hpass Rf Ff
   rintro m ⟨vars, scr⟩ τ3 ⟨i, s3, v3, hi, hpass, hvs, R3, F3⟩
   simp only at hvs
   subst hvs
   cases m with
   | zero => cases hpass
   | succ m =>
   simp only [passS] at hpass
   obtain ⟨gg3, gw3, hw3, hr3, hg3⟩ := R3.run
   simp only [rnObj] at hr3
   by_cases c3 : i < s3.goals.length
   ·have c3' : (i : Int) < s3.goals.length := by omega
    cases c4 : s3.full with
    | false =>
     rw [c4] at hr3
     rw [if_pos ⟨c3, c4⟩] at hpass
     split at hpass
     rotate_left
     ·cases hpass
     rename_i hlen
     split at hpass
     ·cases hpass
     rename_i s4 hlook
     obtain ⟨τ4, v4, q1, R4, F4⟩ := look_ld H.k R3 i hlook
     repeat apply W_seq
     refine W_region (by simp [hr3, c3']; first | exact ⟨rfl, rfl⟩ | exact rfl) ?_
     try simp only [thenQ, blockQ, Ann.kill, List.find?_nil]
     repeat apply W_seq
     refine W_cond (t := true) (by simp) ?_
     simp only [if_true, if_false, Bool.false_eq_true]
     refine W_skip ?_
     try simp only [thenQ, blockQ, Ann.kill, List.find?_nil]
     repeat apply W_seq
     refine W_block ?_
     repeat apply W_seq
     refine W_region (by simp [q1]; first | exact ⟨rfl, rfl⟩ | exact rfl) ?_
     try simp only [thenQ, blockQ, Ann.kill, List.find?_nil]
     repeat apply W_seq
     refine W_region (by simp [IntWalk.i64_in ((i : Int) + 1) (by omega)]; first | exact ⟨rfl, rfl⟩ | exact rfl) ?_
     try simp only [thenQ, blockQ, Ann.kill, List.find?_nil]
     exact ⟨m, Nat.lt_succ_self _, i + 1, s4, v4, by omega, hpass, by simp, R4, F3.trans F4 (fun j hj => .inl hj)⟩
    | true =>
     rw [c4] at hr3
     rw [if_neg (by rw [c4]; simp)] at hpass
     cases hpass
     repeat apply W_seq
     refine W_region (by simp [hr3, c3']; first | exact ⟨rfl, rfl⟩ | exact rfl) ?_
     try simp only [thenQ, blockQ, Ann.kill, List.find?_nil]
     repeat apply W_seq
     refine W_cond (t := false) (by simp) ?_
     simp only [if_true, if_false, Bool.false_eq_true]
     repeat apply W_seq
     refine W_exit ?_
     try simp only [thenQ, blockQ, if_true, Ann.kill, List.find?_nil]
     exact ⟨n, Nat.lt_succ_self _, s2, v3, h, by simp, R3, F3⟩
   ·have c3' : ¬ (i : Int) < s3.goals.length := by omega
    rw [if_neg (fun e => c3 e.1)] at hpass
    cases hpass
    repeat apply W_seq
    refine W_region (by simp [hr3, c3']; first | exact ⟨rfl, rfl⟩ | exact rfl) ?_
    try simp only [thenQ, blockQ, Ann.kill, List.find?_nil]
    repeat apply W_seq
    refine W_cond (t := false) (by simp) ?_
    simp only [if_true, if_false, Bool.false_eq_true]
    repeat apply W_seq
    refine W_exit ?_
    try simp only [thenQ, blockQ, if_true, Ann.kill, List.find?_nil]
    exact ⟨n, Nat.lt_succ_self _, s2, v3, h, by simp, R3, F3⟩
  ·rw [if_neg c2] at h
   obtain rfl : sk = s' := Option.some.inj h
   have t1k : τ[1]? = some (.cells [.t .nils] 0 0) := by rw [Fk.2 1 lt1 (by simp; omega)]; exact t1
   have l1k := lt_of_get t1k
   cases c6 : sk.full with
   | false =>
    have c5 : sk.fresh = false := by
     cases hf : sk.fresh
     ·rfl
     ·exact absurd ⟨hf, c6⟩ c2
    rw [c5, c6] at hr
    repeat apply W_seq
    refine W_region (by simp [hr]; first | exact ⟨rfl, rfl⟩ | exact rfl) ?_
    try simp only [thenQ, blockQ, Ann.kill, List.find?_nil]
    repeat apply W_seq
    refine W_cond (t := false) (by simp) ?_
    simp only [if_true, if_false, Bool.false_eq_true]
    repeat apply W_seq
    refine W_exit ?_
    try simp only [thenQ, blockQ, if_true, Ann.kill, List.find?_nil]
    repeat apply W_seq
    refine W_region (by simp [hr]; first | exact ⟨rfl, rfl⟩ | exact rfl) ?_
    try simp only [thenQ, blockQ, Ann.kill, List.find?_nil]
    repeat apply W_seq
    refine W_cond (t := false) (by simp) ?_
    simp only [if_true, if_false, Bool.false_eq_true]
    refine W_skip ?_
    try simp only [thenQ, blockQ, Ann.kill, List.find?_nil]
    repeat apply W_seq
    refine W_region (by simp [hr, t1k, buildV, fieldSizes, fillV, repZero]; first | exact ⟨rfl, rfl⟩ | exact rfl) ?_
    try simp only [thenQ, blockQ, Ann.kill, List.find?_nil]
    refine W_ret ?_
    try simp only [thenQ, blockQ]
    have lg4 : gl ≠ 1 := by omega
    have kk : ∀ o j, 1 ≠ j → (τ.set 1 o)[j]? = τ[j]? := fun o j hj => List.getElem?_set_ne hj
    have hnot : ∀ j ∈ locsP vk, 1 ≠ j := fun j hj e => by
     subst e
     exact Rk.not_nils t1k hj
    have hR : ∀ o, RdP (τ.set 1 o) sk.goals vk := fun o => Rk.rd.keep fun j hj => kk o j (hnot j hj)
    refine ⟨trivial, .tup [.agg [.sl gl gg 0 sk.goals.length 5], .t (B true)], (by simp [Tryz.f34, get_set l1k]), ?_⟩
    obtain ⟨ts, z1, z2⟩ := frz_gcells 35 sk.goals vk (hR (.cells [.sl gl gg 0 sk.goals.length 5] 0 0))
    have hlen := gcells_len sk.goals vk Rk.rd.1
    have z3 := frz_sl (d := 37) (off := 0) (len := sk.goals.length) (k := 5) (σ := τ.set 1 (.cells [.sl gl gg 0 sk.goals.length 5] 0 0)) (by rw [kk _ gl (Ne.symm lg4)]; exact hg) hw (Nat.le_refl _) (by omega) (by omega) (ts := ts) (by rw [List.drop_zero, List.take_of_length_le (by omega)]; exact z1)
    have z4 : frz 39 (τ.set 1 (.cells [.sl gl gg 0 sk.goals.length 5] 0 0)) (.agg [.sl gl gg 0 sk.goals.length 5]) = some (.agg [.list (chunk 5 sk.goals.length ts)]) := by
     rw [frz, frzs, z3]; rfl
    refine ⟨.tup [.agg [.list (chunk 5 sk.goals.length ts)], B true], by rw [frz, frzs, z4]; rfl, ?_⟩
    simp only [outS, c6, chartT, Bool.false_eq_true, if_false]
    exact ⟨_, rfl, z2⟩
   | true =>
    cases c5 : sk.fresh with
    | false =>
    rw [c5, c6] at hr
    repeat apply W_seq
    refine W_region (by simp [hr]; first | exact ⟨rfl, rfl⟩ | exact rfl) ?_
    try simp only [thenQ, blockQ, Ann.kill, List.find?_nil]
    repeat apply W_seq
    refine W_cond (t := false) (by simp) ?_
    simp only [if_true, if_false, Bool.false_eq_true]
    repeat apply W_seq
    refine W_exit ?_
    try simp only [thenQ, blockQ, if_true, Ann.kill, List.find?_nil]
    repeat apply W_seq
    refine W_region (by simp [hr]; first | exact ⟨rfl, rfl⟩ | exact rfl) ?_
    try simp only [thenQ, blockQ, Ann.kill, List.find?_nil]
    repeat apply W_seq
    refine W_cond (t := true) (by simp) ?_
    simp only [if_true, if_false, Bool.false_eq_true]
    repeat apply W_seq
    refine W_region (by simp [t1k, buildV, fieldSizes, fillV, repZero]; first | exact ⟨rfl, rfl⟩ | exact rfl) ?_
    try simp only [thenQ, blockQ, Ann.kill, List.find?_nil]
    refine W_ret ?_
    try simp only [thenQ, blockQ]
    exact ⟨trivial, .t (.tup [.agg [.nils], B false]), (by simp [Tryz.f34, get_set l1k]), .tup [.agg [.nils], B false], rfl, by simp [outS, c6, chartT]⟩
    | true =>
    rw [c5, c6] at hr
    repeat apply W_seq
    refine W_region (by simp [hr]; first | exact ⟨rfl, rfl⟩ | exact rfl) ?_
    try simp only [thenQ, blockQ, Ann.kill, List.find?_nil]
    repeat apply W_seq
    refine W_cond (t := false) (by simp) ?_
    simp only [if_true, if_false, Bool.false_eq_true]
    repeat apply W_seq
    refine W_exit ?_
    try simp only [thenQ, blockQ, if_true, Ann.kill, List.find?_nil]
    repeat apply W_seq
    refine W_region (by simp [hr]; first | exact ⟨rfl, rfl⟩ | exact rfl) ?_
    try simp only [thenQ, blockQ, Ann.kill, List.find?_nil]
    repeat apply W_seq
    refine W_cond (t := true) (by simp) ?_
    simp only [if_true, if_false, Bool.false_eq_true]
    repeat apply W_seq
    refine W_region (by simp [t1k, buildV, fieldSizes, fillV, repZero]; first | exact ⟨rfl, rfl⟩ | exact rfl) ?_
    try simp only [thenQ, blockQ, Ann.kill, List.find?_nil]
    refine W_ret ?_
    try simp only [thenQ, blockQ]
    exact ⟨trivial, .t (.tup [.agg [.nils], B false]), (by simp [Tryz.f34, get_set l1k]), .tup [.agg [.nils], B false], rfl, by simp [outS, c6, chartT]⟩
theorem run_ld {K : Kn} {rules : List T} {text nm : List Nat} {ru : Nat} {x : T} {al : List Nat} {fr : Nat} (H : RunOk K rules text nm ru al fr) (hx : Is x al) {f : Nat} {s' : Rs} (h : roundS K rules text f f ⟨[⟨ru, al, fr, [], []⟩], 0, true, false⟩ = some s') :
  ∃ y, (∀ σ, LD S 34 [.t (.agg [.list rules]), .t (.str text), .t (.str nm), .t x, .t (I fr)] σ = some (.t y, σ)) ∧ chartT (outS s') y := by
 obtain ⟨v, σ', h1, y, h2, h3⟩ := run_lv H hx h
 exact ⟨y, fun σ => LD_pure (A := A34) (args := [.t (.agg [.list rules]), .t (.str text), .t (.str nm), .t x, .t (I fr)]) rfl rfl rfl h1 h2 σ, h3⟩
/-- too long a text -/
theorem run_long {rules : List T} {text nm : List Nat} {ru : Int} (x : T) (fr : Nat) (gok : ∀ σ, LD S 49 [.t (.agg [.list rules])] σ = some (.t (B true), σ)) (hru : ∀ σ, LD S 50 [.t (.agg [.list rules]), .t (.str nm)] σ = some (.t (I ru), σ)) (hl : 12 < text.length) (σ : Store) :
  LD S 34 [.t (.agg [.list rules]), .t (.str text), .t (.str nm), .t x, .t (I fr)] σ = some (.t (.tup [.agg [.nils], B false]), σ) := by
 suffices hh : ∃ v σ', LV S 34 [.t (.agg [.list rules]), .t (.str text), .t (.str nm), .t x, .t (I fr)] [] = some (v, σ') ∧ frz 40 σ' v = some (.tup [.agg [.nils], B false]) by
  obtain ⟨v, σ', h1, h2⟩ := hh
  exact LD_pure (A := A34) (args := [.t (.agg [.list rules]), .t (.str text), .t (.str nm), .t x, .t (I fr)]) rfl rfl rfl h1 h2 σ
 have ht : (12 : Int) < (text.length : Int) := by omega
 refine LV_bodyX (A := A34) rfl Tryz.func34 rfl ?_
 repeat apply W_seq
 refine W_region (by simp; first | exact ⟨rfl, rfl⟩ | exact rfl) ?_
 try simp only [thenQ, blockQ, Ann.kill, List.find?_nil]
 repeat apply W_seq
 refine W_region (by simp [hru]; first | exact ⟨rfl, rfl⟩ | exact rfl) ?_
 try simp only [thenQ, blockQ, Ann.kill, List.find?_nil]
 repeat apply W_seq
 refine W_region (by simp [gok, ht]; first | exact ⟨rfl, rfl⟩ | exact rfl) ?_
 try simp only [thenQ, blockQ, Ann.kill, List.find?_nil]
 repeat apply W_seq
 refine W_cond (t := true) (by simp) ?_
 simp only [if_true, if_false, Bool.false_eq_true]
 repeat apply W_seq
 refine W_region (by simp [buildV, fieldSizes, fillV, repZero]; first | exact ⟨rfl, rfl⟩ | exact rfl) ?_
 try simp only [thenQ, blockQ, Ann.kill, List.find?_nil]
 refine W_ret ?_
 try simp only [thenQ, blockQ]
 exact ⟨trivial, .t (.tup [.agg [.nils], B false]), (by simp [Tryz.f34]), rfl⟩
end X
