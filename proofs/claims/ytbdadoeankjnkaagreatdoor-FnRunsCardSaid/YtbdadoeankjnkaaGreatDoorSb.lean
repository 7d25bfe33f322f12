/- A part of the proof. No statement of the claim is in it. -/
import Derived.Test.YtbdadoeankjnkaaGreatDoorSa
set_option maxRecDepth 100000
set_option maxHeartbeats 4000000
set_option linter.all false
open Go Go.V Go.Proofs
namespace X
attribute [-simp] lenV idxV getElem?_pos
/-! ### The first goal -/
theorem goal0_ld {rules : T} {text : List Nat} {r d : Nat} {σ : Store} (hr : σ[r]? = some (.cells [.t rules, .t (.str text), .t .nils, .t (I 0), .t (B true), .t (B false)] 0 0)) (ru : Nat) {y : V} {al : List Nat} (hy : IntS σ y d al) (hd : d ≠ r) (here : Nat) (ha : al.length ≤ 1048576) :
  ∃ gl σ' vs', LD S 31 [.ptr r 0 0 6, .t (I ru), y, .t (I here)] σ = some (.t (I 0), σ') ∧ Rep rules text r gl σ' vs' ⟨[⟨ru, al, here, [], []⟩], 0, true, false⟩ ∧ Fr [r] σ σ' ∧ σ.length ≤ gl := by
 have lr := lt_of_get hr
 obtain ⟨yg, yw, rfl, y1, y2⟩ := hy
 have ld := lt_of_get y1
 have hat := find_nil ru
 suffices hh : ∃ v σ', LV S 31 [.ptr r 0 0 6, .t (I ru), .sl d yg 0 al.length 1, .t (I here)] σ = some (v, σ') ∧ v = .t (I 0) ∧ ∃ gl vs', Rep rules text r gl σ' vs' ⟨[⟨ru, al, here, [], []⟩], 0, true, false⟩ ∧ Fr [r] σ σ' ∧ σ.length ≤ gl by
  obtain ⟨v, σ', h1, rfl, gl, vs', h2⟩ := hh
  exact ⟨gl, σ', vs', by rw [qbt (A := A31) rfl rfl rfl]; exact h1, h2⟩
 refine qaq (A := A31) rfl Tryz.func31 rfl ?_
 obtain ⟨x, hf1, hf2⟩ := qfm 38 (v := .sl d yg 0 al.length 1) (l := al) (.inr (.inr ⟨d, yg, yw, rfl, y1, y2⟩))
 have hat2 : LD S 49 [.t .nils, .t (I ru), .sl d yg 0 al.length 1, .t (I here)] σ = some (.t (I (-1)), σ) := by
  refine qck (A := A49) rfl rfl (σ0 := []) (ts := [.nils, I ru, x, I here]) ?_ ?_ rfl
  ·have t1 : ∀ z : T, frz 40 σ (.t z) = some z := fun z => rfl
   simp only [frzs, t1, hf1]
  ·refine qas (A := A49) rfl Tryz.func49 rfl ?_
   refine wR rfl (by simp; rfl) ?_
   refine wR rfl (by simp; rfl) ?_
   refine wB rfl ?_
   try simp only [tq]
   refine qay ?_
   refine wR rfl (by simp; rfl) ?_
   refine wF rfl (by simp) ?_
   repeat apply qaw
   refine qal ?_
   try simp only [tq, if_true]
   refine wR rfl (by simp; rfl) ?_
   refine wX ?_
   try simp only [tq]
   simp [Tryz.f49]
 refine wR rfl (by simp; rfl) ?_
 refine wR rfl (by simp [hr, hat2]; rfl) ?_
 refine wR rfl (by simp; rfl) ?_
 refine wF rfl (by simp) ?_
 refine wK ?_
 refine wR rfl (by simp [hr]; rfl) ?_
 refine wF rfl (by simp) ?_
 refine wK ?_
 refine wR rfl (by simp [hr, qbz, qar, qao, qap, qaf, qaa, qab, qag, chunk, qcc, allT, qac, List.getElem?_append, lr]; rfl) ?_
 refine wR rfl (by simp [List.getElem?_append, lr, List.getElem?_set_self]; rfl) ?_
 refine wR rfl (by simp [List.getElem?_append, lr, List.getElem?_set_self]; rfl) ?_
 try simp only [tq]
 refine wX ?_
 try simp only [tq]
 have hw : IntKind.i64.wrap 0 = 0 := by decide
 have hL : (σ.set r (V.Obj.cells [V.t rules, V.t (T.str text), V.sl (σ.length + 1) 0 0 1 5, V.t (I 0), V.t (T.bool true), V.t (B false)] 0 0)).length = σ.length := by simp
 refine ⟨trivial, .t (I 0), (by simp [Tryz.f31, hw]), rfl, σ.length + 1, [(.sl d yg 0 al.length 1, .t .nils, .t .nils)], ⟨⟨0, 0, Nat.le_refl _, ?_, ?_⟩, ⟨rfl, fun i g p hg hp => ?_⟩, by omega, fun j hj => ?_, fun g hg => ?_⟩, ⟨by simp, fun i hi hn => ?_⟩, by omega⟩
 ·rw [List.getElem?_append_left (by omega), List.getElem?_set_self lr]
  rfl
 ·rw [List.getElem?_append_right (by omega), hL, Nat.add_sub_cancel_left]
  rfl
 ·cases i with
  | zero =>
   simp only [List.getElem?_cons_zero, Option.some.injEq] at hg hp
   subst hg hp
   exact ⟨.inr (.inr ⟨d, yg, yw, rfl, by rw [List.getElem?_append_left (by omega), List.getElem?_set_ne (Ne.symm hd)]; exact y1, y2⟩), .inl ⟨rfl, rfl⟩, .inl ⟨rfl, rfl⟩⟩
  | succ i => simp at hg
 ·simp [qbc, locV] at hj
  subst hj
  exact ⟨hd, by omega⟩
 ·simp only [List.mem_singleton] at hg
  subst hg
  exact ha
 ·rw [List.getElem?_append_left (by omega), List.getElem?_set_ne (fun e => hn (by simp [e]))]
/-! ### Rounds -/
def qkq (K : Kn) (rules : List T) (text : List Nat) : Nat → Nat → Rs → Option Rs
 | 0, _, _ => none
 | f + 1, i, s => if i < s.goals.length ∧ s.full = false then
     if s.goals.length ≤ 1000 then match qpg K rules text s i with
      | none => none
      | some s' => qkq K rules text f (i + 1) s'
     else none
  else some s
def qdq (K : Kn) (rules : List T) (text : List Nat) (f : Nat) : Nat → Rs → Option Rs
 | 0, _ => none
 | n + 1, s => if s.fresh = true ∧ s.full = false then match qkq K rules text f 0 { s with fresh := false } with
     | none => none
     | some s' => qdq K rules text f n s'
  else some s
/-- what a run is: none; or the goals -/
def chartT (o : Option (List Gl)) (x : T) : Prop := match o with
 | some gs => ∃ rows, x = .tup [.agg [.list rows], B true] ∧ qks gs rows
 | none => x = .tup [.agg [.nils], B false]
def outS (s : Rs) : Option (List Gl) := if s.full then none else some s.goals
theorem Rep.fresh {rules : T} {text : List Nat} {r gl : Nat} {σ : Store} {vs : List V3} {s : Rs} (R : Rep rules text r gl σ vs s) {gg : Nat} (hr : σ[r]? = some (qbr rules text (.sl gl gg 0 s.goals.length 5) s)) (b : Bool) : Rep rules text r gl (σ.set r (qbr rules text (.sl gl gg 0 s.goals.length 5) { s with fresh := b })) vs { s with fresh := b } := by
 have lr := lt_of_get hr
 obtain ⟨gg', gw, h0, h1, h2⟩ := R.run
 have e : gg' = gg := by
  rw [hr] at h1
  simp [qbr] at h1
  exact h1.symm
 subst e
 refine ⟨⟨gg', gw, h0, List.getElem?_set_self lr, ?_⟩, R.rd.keep fun j hj => List.getElem?_set_ne (Ne.symm (R.apart j hj).1), R.ne, R.apart, R.args⟩
 rw [List.getElem?_set_ne R.ne]; exact h2

theorem q2z {x : T} {al : List Nat} (h : Is x al) (σ : Store) : qaf σ 1 (.t x) = some (al.length, ints al) := by
 rcases h with ⟨rfl, rfl⟩ | rfl
 ·rfl
 ·simp only [qaf, qmx]; simp

theorem app_args {x : T} {al : List Nat} (hx : Is x al) (hl : al.length ≤ 1000) (a b c : V.Obj) : ∃ g, qap S.ty [a, b, c, .cells [] 0 0] [27, 27] (.sl 3 0 0 0 1) (.t x) = some (.sl 3 g 0 al.length 1, [a, b, c, .cells (ints al) g 0]) := by
 have hs := q2z hx
 cases al with
 | nil => exact ⟨0, by simp [qap, hs]; rfl⟩
 | cons n l =>
  have hb : (l.length + 1) * 8 ≤ 140737488355328 := by simp at hl; omega
  exact ⟨1, by simp [qap, hs, hb]⟩
theorem qci {σ : Store} {i : Nat} (h : i < σ.length) (o : V.Obj) : (σ.set i o)[i]? = some o := List.getElem?_set_self h
/-- a cell that holds no numbers is no slice of numbers -/
theorem Rep.not_nils {rules : T} {text : List Nat} {r gl d : Nat} {σ : Store} {vs : List V3} {s : Rs} (R : Rep rules text r gl σ vs s) (hd : σ[d]? = some (.cells [.t .nils] 0 0)) : ¬ d ∈ qbc vs := by
 intro hm
 obtain ⟨p, hp, hj⟩ := List.mem_flatMap.1 hm
 obtain ⟨i, hi⟩ := List.getElem?_of_mem hp
 obtain ⟨gl, hg⟩ := get_of_lt (show i < s.goals.length by rw [← R.rd.1]; exact lt_of_get hi)
 obtain ⟨h1, h2, h3⟩ := R.rd.2 i gl p hg hi
 have key : ∀ {v : V} {l : List Nat}, Rd σ v l → d ∈ locV v → False := by
  intro v l hr hm
  rcases hr with ⟨rfl, _⟩ | rfl | ⟨d', g', w', rfl, q1, q2⟩
  ·simp [locV] at hm
  ·simp [locV] at hm
  ·simp only [locV, List.mem_singleton] at hm
   subst hm
   rw [hd] at q1
   simp only [Option.some.injEq, V.Obj.cells.injEq] at q1
   have e := q1.1
   cases l with
   | nil => simp [ints] at e
   | cons n l => simp [ints] at e
 simp only [List.mem_append] at hj
 rcases hj with hj | hj | hj
 ·exact key h1 hj
 ·exact key h2 hj
 ·exact key h3 hj
structure RunOk (K : Kn) (rules : List T) (text : List Nat) (nm : List Nat) (ru : Nat) (al : List Nat) (fr : Nat) : Prop where
 k : KnOk K (.list rules) text
 gok : ∀ σ, LD S 29 [.t (.agg [.list rules])] σ = some (.t (B true), σ)
 ruleAt : K.ruleAt nm = some ru
 rule : ∃ n ps az pl, rules[ru]? = some (.agg [n, ps, az]) ∧ qce ps = some pl ∧ pl.length = al.length
 len : text.length ≤ 12
 from_ : fr ≤ text.length
 args : al.length ≤ 1000 ∧ ∀ a ∈ al, a ≤ 99
theorem run_lv {K : Kn} {rules : List T} {text nm : List Nat} {ru : Nat} {x : T} {al : List Nat} {fr : Nat} (H : RunOk K rules text nm ru al fr) (hx : Is x al) {f : Nat} {s' : Rs} (h : qdq K rules text f f ⟨[⟨ru, al, fr, [], []⟩], 0, true, false⟩ = some s') :
  ∃ v σ', LV S 8 [.t (.agg [.list rules]), .t (.str text), .t (.str nm), .t x, .t (I fr)] [] = some (v, σ') ∧ ∃ y, frz 40 σ' v = some y ∧ chartT (outS s') y := by
 obtain ⟨n, ps, az, pl, hrule, hps, hpl⟩ := H.rule
 have e1 := H.k.ruleAt _ _ H.ruleAt
 have e2 := H.gok
 have e3 := fun σ => qqo fr 0 text.length σ
 have ei : inF (fr : Int) 0 (text.length : Int) = true := by
  have := H.from_
  simp [inF]; omega
 rw [ei] at e3
 have hpsy := qdt hps
 have hlp : ∀ (σ : Store) (e : TypeId), lenV σ (.slice e) (.t ps) = some (al.length : Int) := fun σ e => by rw [hpsy.len, hpl]
 have ht : ¬ (12 : Int) < (text.length : Int) := by have := H.len; omega
 have hr0 : ¬ (ru : Int) < 0 := by omega
 obtain ⟨ha1, ha2⟩ := H.args
 refine qaq (A := A8) rfl Tryz.func8 rfl ?_
 refine wR rfl (by simp; rfl) ?_
 refine wR rfl (by simp [e1]; rfl) ?_
 refine wR rfl (by simp [e2, e3, hx.len, hlp, hrule, ht, hr0]; rfl) ?_
 refine wF rfl (by simp) ?_
 refine wK ?_
 refine wR rfl (by simp; rfl) ?_
 refine wB rfl ?_
 try simp only [tq]
 refine qat (I := fun m st τ => ∃ k, m = al.length - k ∧ k ≤ al.length ∧ st.vars = [(0, .t (.agg [.list rules])), (1, .t (.str text)), (2, .t (.str nm)), (3, .t x), (4, .t (I fr)), (5, .ptr 0 0 0 1), (10, .ptr 1 0 0 1), (11, .t (B false)), (12, .t (I ru)), (13, .t (I k))] ∧ τ = [.cells [.t (.list rules)] 0 0, .cells [.t .nils] 0 0]) ?_ al.length _ _ ⟨0, rfl, Nat.zero_le _, by simp, rfl⟩
 rintro m ⟨vars, scr⟩ τ ⟨k, rfl, hk, hvs, rfl⟩
 simp only at hvs
 subst hvs
 refine wR rfl (by simp [hx.len]; rfl) ?_
 by_cases c1 : k < al.length
 ·refine wT rfl (by simp [c1]) ?_
  refine wK ?_
  refine wB rfl ?_
  obtain ⟨a, hak⟩ := get_of_lt c1
  have hin := fun σ => qqo a 0 99 σ
  have ea : inF (a : Int) 0 99 = true := by
   have := ha2 a (List.mem_of_getElem? hak)
   simp [inF]; omega
  rw [ea] at hin
  refine wR rfl (by simp [hx.idx hak, hin]; rfl) ?_
  refine wF rfl (by simp) ?_
  refine wK ?_
  refine wR rfl (by simp [IntWalk.i64_in ((k : Int) + 1) (by omega)]; rfl) ?_
  try simp only [tq]
  exact ⟨al.length - (k + 1), by omega, k + 1, rfl, c1, by simp, by simp⟩
 ·refine wF rfl (by simp [c1]) ?_
  repeat apply qaw
  refine qal ?_
  try simp only [tq, if_true]
  refine wR rfl (by simp [qbz, qar, qao, qac, qab]; rfl) ?_
  obtain ⟨ga, happ⟩ := app_args hx ha1 (.cells [.t (.list rules)] 0 0) (.cells [.t .nils] 0 0) (.cells [.t (.list rules), .t (.str text), .t .nils, .t (I 0), .t (B true), .t (B false)] 0 0)
  obtain ⟨gl, τ1, vs1, g1, R1, F1, lgl⟩ := goal0_ld (rules := .list rules) (text := text) (r := 2) (d := 3) (σ := [.cells [.t (.list rules)] 0 0, .cells [.t .nils] 0 0, .cells [.t (.list rules), .t (.str text), .t .nils, .t (I 0), .t (B true), .t (B false)] 0 0, .cells (ints al) ga 0]) rfl ru (y := .sl 3 ga 0 al.length 1) ⟨ga, 0, rfl, rfl, Nat.zero_le _⟩ (by decide) fr (by omega)
  refine wR rfl (by simp [qaa, qab, chunk, qao, happ, g1]; rfl) ?_
  have lgl' : 4 ≤ gl := lgl
  have t1 : τ1[1]? = some (.cells [.t .nils] 0 0) := by rw [F1.2 1 (by simp) (by decide)]; rfl
  have lt1 := lt_of_get t1
  clear g1 happ
  refine wB rfl ?_
  try simp only [tq]
  refine qat (I := fun m st τ => ∃ sk vk, qdq K rules text f m sk = some s' ∧ st.vars = [(0, .t (.agg [.list rules])), (1, .t (.str text)), (2, .t (.str nm)), (3, .t x), (4, .t (I fr)), (5, .ptr 0 0 0 1), (10, .ptr 1 0 0 1), (11, .t (B false)), (12, .t (I ru)), (14, .ptr 2 0 0 6)] ∧ Rep (.list rules) text 2 gl τ vk sk ∧ Fr [2, gl] τ1 τ) ?_ f _ _ ⟨_, vs1, h, by simp, R1, Fr.refl _ _⟩
  clear h R1 F1
  rintro m ⟨vars, scr⟩ τ ⟨sk, vk, h, hvs, Rk, Fk⟩
  simp only at hvs
  subst hvs
  cases m with
  | zero => cases h
  | succ n =>
  simp only [qdq] at h
  obtain ⟨gg, gw, hw, hr, hg⟩ := Rk.run
  have hr0 := hr
  simp only [qbr] at hr
  by_cases c2 : sk.fresh = true ∧ sk.full = false
  ·rw [if_pos c2] at h
   split at h
   ·cases h
   rename_i s2 hpass
   rw [c2.1, c2.2] at hr
   refine wR rfl (by simp [hr]; rfl) ?_
   refine wT rfl (by simp) ?_
   refine wK ?_
   refine wB rfl ?_
   refine wR rfl (by simp [hr]; rfl) ?_
   try simp only [tq]
   have Rf := Rk.fresh hr0 false
   have Ff : Fr [2, gl] τ1 (τ.set 2 (qbr (.list rules) text (.sl gl gg 0 sk.goals.length 5) { sk with fresh := false })) := Fk.trans (own2 := [2, gl]) ⟨by simp, fun j hj hn => List.getElem?_set_ne (fun e => hn (by simp [e]))⟩ (fun j hj => .inl hj)
   simp only [qbr, c2.2] at Rf Ff
   revert Rf Ff
   generalize τ.set 2 (.cells [.t (.list rules), .t (.str text), .sl gl gg 0 sk.goals.length 5, .t (I sk.rank), .t (B false), .t (B false)] 0 0) = τ2
   intro Rf Ff
   refine wR rfl (by simp; rfl) ?_
   refine wB rfl ?_
   try simp only [tq]
   refine qat (I := fun m st τ => ∃ i s3 v3, i ≤ 1000 ∧ qkq K rules text m i s3 = some s2 ∧ st.vars = [(0, .t (.agg [.list rules])), (1, .t (.str text)), (2, .t (.str nm)), (3, .t x), (4, .t (I fr)), (5, .ptr 0 0 0 1), (10, .ptr 1 0 0 1), (11, .t (B false)), (12, .t (I ru)), (14, .ptr 2 0 0 6), (15, .t (I i))] ∧ Rep (.list rules) text 2 gl τ v3 s3 ∧ Fr [2, gl] τ1 τ) ?_ f _ _ ⟨0, { sk with fresh := false }, vk, by omega, by rw [← c2.2] at hpass ⊢; exact hpass, by simp, by rw [c2.2]; exact Rf, Ff⟩
   clear hpass Rf Ff
   rintro m ⟨vars, scr⟩ τ3 ⟨i, s3, v3, hi, hpass, hvs, R3, F3⟩
   simp only at hvs
   subst hvs
   cases m with
   | zero => cases hpass
   | succ m =>
   simp only [qkq] at hpass
   obtain ⟨gg3, gw3, hw3, hr3, hg3⟩ := R3.run
   simp only [qbr] at hr3
   by_cases c3 : i < s3.goals.length
   ·have c3' : (i : Int) < s3.goals.length := by omega
    cases c4 : s3.full with
    | false =>
     rw [c4] at hr3
     rw [if_pos ⟨c3, c4⟩] at hpass
     split at hpass
     rotate_left
     ·cases hpass
     rename_i hlen
     split at hpass
     ·cases hpass
     rename_i s4 hlook
     obtain ⟨τ4, v4, q1, R4, F4⟩ := look_ld H.k R3 i hlook
     refine wR rfl (by simp [hr3, c3']; rfl) ?_
     refine wT rfl (by simp) ?_
     refine wK ?_
     refine wB rfl ?_
     refine wR rfl (by simp [q1]; rfl) ?_
     refine wR rfl (by simp [IntWalk.i64_in ((i : Int) + 1) (by omega)]; rfl) ?_
     try simp only [tq]
     exact ⟨m, Nat.lt_succ_self _, i + 1, s4, v4, by omega, hpass, by simp, R4, F3.trans F4 (fun j hj => .inl hj)⟩
    | true =>
     rw [c4] at hr3
     rw [if_neg (by rw [c4]; simp)] at hpass
     cases hpass
     refine wR rfl (by simp [hr3, c3']; rfl) ?_
     refine wF rfl (by simp) ?_
     repeat apply qaw
     refine qal ?_
     try simp only [tq, if_true]
     exact ⟨n, Nat.lt_succ_self _, s2, v3, h, by simp, R3, F3⟩
   ·have c3' : ¬ (i : Int) < s3.goals.length := by omega
    rw [if_neg (fun e => c3 e.1)] at hpass
    cases hpass
    refine wR rfl (by simp [hr3, c3']; rfl) ?_
    refine wF rfl (by simp) ?_
    repeat apply qaw
    refine qal ?_
    try simp only [tq, if_true]
    exact ⟨n, Nat.lt_succ_self _, s2, v3, h, by simp, R3, F3⟩
  ·rw [if_neg c2] at h
   obtain rfl : sk = s' := Option.some.inj h
   have t1k : τ[1]? = some (.cells [.t .nils] 0 0) := by rw [Fk.2 1 lt1 (by simp; omega)]; exact t1
   have l1k := lt_of_get t1k
   cases c6 : sk.full with
   | false =>
    have c5 : sk.fresh = false := by
     cases hf : sk.fresh
     ·rfl
     ·exact absurd ⟨hf, c6⟩ c2
    rw [c5, c6] at hr
    refine wR rfl (by simp [hr]; rfl) ?_
    refine wF rfl (by simp) ?_
    repeat apply qaw
    refine qal ?_
    try simp only [tq, if_true]
    refine wR rfl (by simp [hr]; rfl) ?_
    refine wF rfl (by simp) ?_
    refine wK ?_
    refine wR rfl (by simp [hr, t1k, qbz, qar, qao, qab]; rfl) ?_
    try simp only [tq]
    refine wX ?_
    try simp only [tq]
    have lg4 : gl ≠ 1 := by omega
    have kk : ∀ o j, 1 ≠ j → (τ.set 1 o)[j]? = τ[j]? := fun o j hj => List.getElem?_set_ne hj
    have hnot : ∀ j ∈ qbc vk, 1 ≠ j := fun j hj e => by
     subst e
     exact Rk.not_nils t1k hj
    have hR : ∀ o, RdP (τ.set 1 o) sk.goals vk := fun o => Rk.rd.keep fun j hj => kk o j (hnot j hj)
    refine ⟨trivial, .tup [.agg [.sl gl gg 0 sk.goals.length 5], .t (B true)], (by simp [Tryz.f8, qci l1k]), ?_⟩
    obtain ⟨ts, z1, z2⟩ := qdw 35 sk.goals vk (hR (.cells [.sl gl gg 0 sk.goals.length 5] 0 0))
    have hlen := qbg sk.goals vk Rk.rd.1
    have z3 := qkg (d := 37) (off := 0) (len := sk.goals.length) (k := 5) (σ := τ.set 1 (.cells [.sl gl gg 0 sk.goals.length 5] 0 0)) (by rw [kk _ gl (Ne.symm lg4)]; exact hg) hw (Nat.le_refl _) (by omega) (by omega) (ts := ts) (by rw [List.drop_zero, List.take_of_length_le (by omega)]; exact z1)
    have z4 : frz 39 (τ.set 1 (.cells [.sl gl gg 0 sk.goals.length 5] 0 0)) (.agg [.sl gl gg 0 sk.goals.length 5]) = some (.agg [.list (chunk 5 sk.goals.length ts)]) := by
     rw [frz, frzs, z3]; rfl
    refine ⟨.tup [.agg [.list (chunk 5 sk.goals.length ts)], B true], by rw [frz, frzs, z4]; rfl, ?_⟩
    simp only [outS, c6, chartT, Bool.false_eq_true, if_false]
    exact ⟨_, rfl, z2⟩
   | true =>
    cases c5 : sk.fresh with
    | false =>
    rw [c5, c6] at hr
    refine wR rfl (by simp [hr]; rfl) ?_
    refine wF rfl (by simp) ?_
    repeat apply qaw
    refine qal ?_
    try simp only [tq, if_true]
    refine wR rfl (by simp [hr]; rfl) ?_
    refine wT rfl (by simp) ?_
    refine wR rfl (by simp [t1k, qbz, qar, qao, qab]; rfl) ?_
    try simp only [tq]
    refine wX ?_
    try simp only [tq]
    exact ⟨trivial, .t (.tup [.agg [.nils], B false]), (by simp [Tryz.f8, qci l1k]), .tup [.agg [.nils], B false], rfl, by simp [outS, c6, chartT]⟩
    | true =>
    rw [c5, c6] at hr
    refine wR rfl (by simp [hr]; rfl) ?_
    refine wF rfl (by simp) ?_
    repeat apply qaw
    refine qal ?_
    try simp only [tq, if_true]
    refine wR rfl (by simp [hr]; rfl) ?_
    refine wT rfl (by simp) ?_
    refine wR rfl (by simp [t1k, qbz, qar, qao, qab]; rfl) ?_
    try simp only [tq]
    refine wX ?_
    try simp only [tq]
    exact ⟨trivial, .t (.tup [.agg [.nils], B false]), (by simp [Tryz.f8, qci l1k]), .tup [.agg [.nils], B false], rfl, by simp [outS, c6, chartT]⟩
theorem run_ld {K : Kn} {rules : List T} {text nm : List Nat} {ru : Nat} {x : T} {al : List Nat} {fr : Nat} (H : RunOk K rules text nm ru al fr) (hx : Is x al) {f : Nat} {s' : Rs} (h : qdq K rules text f f ⟨[⟨ru, al, fr, [], []⟩], 0, true, false⟩ = some s') :
  ∃ y, (∀ σ, LD S 8 [.t (.agg [.list rules]), .t (.str text), .t (.str nm), .t x, .t (I fr)] σ = some (.t y, σ)) ∧ chartT (outS s') y := by
 obtain ⟨v, σ', h1, y, h2, h3⟩ := run_lv H hx h
 exact ⟨y, fun σ => qaj (A := A8) (args := [.t (.agg [.list rules]), .t (.str text), .t (.str nm), .t x, .t (I fr)]) rfl rfl rfl h1 h2 σ, h3⟩
end X
namespace X
attribute [-simp] lenV idxV getElem?_pos
/-! ### Ends, the longest, spans -/
def qiu (o : Option (List Gl)) : List Nat := match o with
 | some (g :: _) => g.ends
 | _ => []
theorem q0p {gr : List T} {tx nm ax : T} {ft : T} {o : Option (List Gl)} {y : T} (hr : ∀ σ, LD S 8 [.t (.agg [.list gr]), .t tx, .t nm, .t ax, .t ft] σ = some (.t y, σ)) (hc : chartT o y) (hg : o ≠ some []) :
  ∃ x, Is x (qiu o) ∧ ∀ σ, LD S 13 [.t (.agg [.list gr]), .t tx, .t nm, .t ax, .t ft] σ = some (.t x, σ) := by
 suffices hh : ∃ v σ', LV S 13 [.t (.agg [.list gr]), .t tx, .t nm, .t ax, .t ft] [] = some (v, σ') ∧ ∃ x, Is x (qiu o) ∧ frz 40 σ' v = some x by
  obtain ⟨v, σ', h1, x, h2, h3⟩ := hh
  exact ⟨x, h2, fun σ => qaj (A := A13) (args := [.t (.agg [.list gr]), .t tx, .t nm, .t ax, .t ft]) rfl rfl rfl h1 h3 σ⟩
 refine qaq (A := A13) rfl Tryz.func13 rfl ?_
 cases o with
 | none =>
  simp only [chartT] at hc
  subst hc
  refine wR rfl (by simp; rfl) ?_
  refine wR rfl (by simp [hr, qao, qac]; rfl) ?_
  refine wR rfl (by simp; rfl) ?_
  refine wT rfl (by simp) ?_
  refine wR rfl (by simp [qaa, qab, chunk, qao]; rfl) ?_
  try simp only [tq]
  refine wX ?_
  try simp only [tq]
  exact ⟨trivial, _, (by simp [Tryz.f13]; rfl), .list [], .inr rfl, rfl⟩
 | some gs => cases gs with
  | nil => exact absurd rfl hg
  | cons g gs =>
  simp only [chartT] at hc
  obtain ⟨rows, rfl, hrows⟩ := hc
  obtain ⟨x, e, k, hw, ix, ie, ik⟩ := hrows.2 0 g rfl
  refine wR rfl (by simp; rfl) ?_
  refine wR rfl (by simp [hr, qao, qac]; rfl) ?_
  refine wR rfl (by simp; rfl) ?_
  refine wF rfl (by simp) ?_
  refine wK ?_
  refine wR rfl (by simp [hw, rowT]; rfl) ?_
  try simp only [tq]
  refine wX ?_
  try simp only [tq]
  exact ⟨trivial, _, (by simp [Tryz.f13]; rfl), e, ie, rfl⟩
def lastR (l : List Nat) : Int := match l.getLast? with
 | some e => (e : Int)
 | none => -1
/-! ### Spans -/
def q3y (long : Nat → Int) (n : Nat) : Nat → Nat → List (Nat × Nat)
 | 0, _ => []
 | f + 1, k => if k < n ∧ k < 50 then match long k with
     | .ofNat e => if k < e then (k, e) :: q3y long n f e else q3y long n f (k + 1)
     | .negSucc _ => q3y long n f (k + 1)
  else []
def cells2 : List (Nat × Nat) → List V
 | [] => []
 | p :: r => .t (I p.1) :: .t (I p.2) :: cells2 r
def rows2 (l : List (Nat × Nat)) : List T := l.map fun p => .agg [I p.1, I p.2]
/-- spans come one behind the other -/
def Asc (n : Nat) : Nat → List (Nat × Nat) → Prop
 | k, [] => k ≤ n
 | k, p :: r => k ≤ p.1 ∧ p.1 < p.2 ∧ Asc n p.2 r
end X
namespace X
attribute [-simp] lenV idxV getElem?_pos
/-! ### Expressions -/
def getE : Env → List Nat → Option Int
 | [], _ => none
 | p :: r, nm => if p.1 = nm then some p.2 else getE r nm
def getT (o : Option Int) : T := match o with
 | some n => .tup [I n, B true]
 | none => .tup [I 0, B false]
theorem q4n (e : Env) (nm : List Nat) (hl : e.length ≤ 1048576) : LV S 176 [.t (envT e), .t (.str nm)] [] = some (.t (getT (getE e nm)), []) := by
 refine qas (A := A176) rfl Tryz.func176 rfl ?_
 refine wR rfl (by simp; rfl) ?_
 refine wR rfl (by simp; rfl) ?_
 refine wB rfl ?_
 try simp only [tq]
 refine qat (I := fun m st τ => ∃ k, m = e.length - k ∧ k ≤ e.length ∧ getE e nm = getE (e.drop k) nm ∧ st.vars = [(0, .t (envT e)), (1, .t (.str nm)), (4, .t (I 0)), (5, .t (B false)), (6, .t (I k))] ∧ τ = []) ?_ e.length _ _ ⟨0, rfl, Nat.zero_le _, rfl, by simp [envT], rfl⟩
 rintro m ⟨vars, scr⟩ τ ⟨k, rfl, hk, he, hv, rfl⟩
 simp only at hv
 subst hv
 refine wR rfl (by simp [envT]; rfl) ?_
 by_cases c1 : k < e.length
 ·refine wT rfl (by simp [c1]) ?_
  refine wK ?_
  refine wB rfl ?_
  obtain ⟨p, hp⟩ := get_of_lt c1
  rw [qak hp] at he
  simp only [getE] at he
  refine wR rfl (by simp [envT, hp, rowE, eqL_eq]; rfl) ?_
  by_cases c2 : p.1 = nm
  ·rw [if_pos c2] at he
   refine wT rfl (by simp [c2]) ?_
   refine wR rfl (by simp [envT, hp, rowE]; rfl) ?_
   refine wX ?_
   try simp only [tq]
   simp [Tryz.f176, he, getT]
  ·rw [if_neg c2] at he
   refine wF rfl (by simp [c2]) ?_
   refine wK ?_
   refine wR rfl (by simp [IntWalk.i64_in ((k : Int) + 1) (by omega)]; rfl) ?_
   try simp only [tq]
   exact ⟨e.length - (k + 1), by omega, k + 1, rfl, c1, he, by simp [envT], by simp⟩
 ·refine wF rfl (by simp [c1]) ?_
  repeat apply qaw
  refine qal ?_
  try simp only [tq, if_true]
  have : k = e.length := by omega
  subst this
  rw [List.drop_length] at he
  simp only [getE] at he
  refine wR rfl (by simp; rfl) ?_
  refine wX ?_
  try simp only [tq]
  simp [Tryz.f176, he, getT]
theorem q1o (e : Env) (nm : List Nat) (hl : e.length ≤ 1048576) (σ : Store) : LD S 176 [.t (envT e), .t (.str nm)] σ = some (.t (getT (getE e nm)), σ) :=
 qaj (A := A176) (v := .t (getT (getE e nm))) (σ0 := []) rfl rfl rfl (q4n e nm hl) rfl σ
def qfn (b : Bool) : Int := if b then 1 else 0
theorem qje (b : Bool) (σ : Store) : LD S 177 [.t (B b)] σ = some (.t (I (qfn b)), σ) := by
 suffices h : LV S 177 [.t (B b)] [] = some (.t (I (qfn b)), []) from qaj (A := A177) (v := .t (I (qfn b))) (σ0 := []) rfl rfl rfl h rfl σ
 refine qas (A := A177) rfl Tryz.func177 rfl ?_
 cases b with
 | true =>
  refine wR rfl (by simp; rfl) ?_
  refine wR rfl (by simp; rfl) ?_
  refine wT rfl (by simp) ?_
  refine wR rfl (by simp; rfl) ?_
  refine wX ?_
  try simp only [tq]
  simp [Tryz.f177, qfn]
 | false =>
  refine wR rfl (by simp; rfl) ?_
  refine wR rfl (by simp; rfl) ?_
  refine wF rfl (by simp) ?_
  refine wK ?_
  refine wR rfl (by simp; rfl) ?_
  refine wX ?_
  try simp only [tq]
  simp [Tryz.f177, qfn]
/-- what is reckoned of two numbers -/
def twoF (op : Nat) (a b : Int) : Option Int :=
 if op = 4 then some (a + b) else if op = 5 then some (a - b) else if op = 6 then some (a * b)
 else if op = 7 then (if b = 0 then none else some (a.tdiv b)) else if op = 8 then some (qfn (decide (a < b)))
 else if op = 9 then some (qfn (a == b)) else some (qfn (decide (a ≠ 0) && decide (b ≠ 0)))
def Nb (a : Int) : Prop := -9999 ≤ a ∧ a ≤ 9999
theorem mul_nb {a b : Int} (ha : Nb a) (hb : Nb b) : -99980001 ≤ a * b ∧ a * b ≤ 99980001 := by
 obtain ⟨a1, a2⟩ := ha
 obtain ⟨b1, b2⟩ := hb
 have h1 : a.natAbs ≤ 9999 := by omega
 have h2 : b.natAbs ≤ 9999 := by omega
 have h3 : (a * b).natAbs ≤ 9999 * 9999 := by rw [Int.natAbs_mul]; exact Nat.mul_le_mul h1 h2
 omega
theorem q0k {a b : Int} (ha : Nb a) : -9999 ≤ a.tdiv b ∧ a.tdiv b ≤ 9999 := by
 obtain ⟨a1, a2⟩ := ha
 have h3 : (a.tdiv b).natAbs ≤ a.natAbs := by rw [Int.natAbs_tdiv]; exact Nat.div_le_self _ _
 omega
theorem two_lv (op : Nat) (a b : Int) (ha : Nb a) (hb : Nb b) : LV S 178 [.t (I op), .t (I a), .t (I b)] [] = some (.t (getT (twoF op a b)), []) := by
 have hm := mul_nb ha hb
 have hd := q0k (b := b) ha
 obtain ⟨a1, a2⟩ := ha
 obtain ⟨b1, b2⟩ := hb
 refine qas (A := A178) rfl Tryz.func178 rfl ?_
 refine wR rfl (by simp; rfl) ?_
 refine wR rfl (by simp; rfl) ?_
 refine wB rfl ?_
 refine wR rfl (by simp; rfl) ?_
 by_cases c4 : op = 4
 ·subst c4
  refine wT rfl (by simp) ?_
  refine wR rfl (by simp [IntWalk.i64_in (a + b) (by omega)]; rfl) ?_
  refine wX ?_
  try simp only [tq]
  simp [Tryz.f178, getT, twoF]
 ·refine wF rfl (by simp [show ¬ (op : Int) = 4 by omega]) ?_
  refine wR rfl (by simp; rfl) ?_
  by_cases c5 : op = 5
  ·subst c5
   refine wT rfl (by simp) ?_
   refine wR rfl (by simp [IntWalk.i64_in (a - b) (by omega)]; rfl) ?_
   refine wX ?_
   try simp only [tq]
   simp [Tryz.f178, getT, twoF]
  ·refine wF rfl (by simp [show ¬ (op : Int) = 5 by omega]) ?_
   refine wR rfl (by simp; rfl) ?_
   by_cases c6 : op = 6
   ·subst c6
    refine wT rfl (by simp) ?_
    refine wR rfl (by simp [IntWalk.i64_in (a * b) (by omega)]; rfl) ?_
    refine wX ?_
    try simp only [tq]
    simp [Tryz.f178, getT, twoF]
   ·refine wF rfl (by simp [show ¬ (op : Int) = 6 by omega]) ?_
    refine wR rfl (by simp; rfl) ?_
    by_cases c7 : op = 7
    ·subst c7
     refine wT rfl (by simp) ?_
     refine wR rfl (by simp; rfl) ?_
     by_cases cb : b = 0
     ·subst cb
      refine wT rfl (by simp) ?_
      refine wR rfl (by simp; rfl) ?_
      refine wX ?_
      try simp only [tq]
      simp [Tryz.f178, getT, twoF]
     ·refine wF rfl (by simp [cb]) ?_
      refine wK ?_
      refine wR rfl (by simp [cb, IntWalk.i64_in (a.tdiv b) (by omega)]; rfl) ?_
      refine wX ?_
      try simp only [tq]
      simp [Tryz.f178, getT, twoF, cb]
    ·refine wF rfl (by simp [show ¬ (op : Int) = 7 by omega]) ?_
     refine wR rfl (by simp; rfl) ?_
     by_cases c8 : op = 8
     ·subst c8
      refine wT rfl (by simp) ?_
      refine wR rfl (by simp [qje]; rfl) ?_
      refine wX ?_
      try simp only [tq]
      simp [Tryz.f178, getT, twoF]
     ·refine wF rfl (by simp [show ¬ (op : Int) = 8 by omega]) ?_
      refine wR rfl (by simp; rfl) ?_
      by_cases c9 : op = 9
      ·subst c9
       refine wT rfl (by simp) ?_
       have hf := qje (a == b)
       refine wR rfl (by simp [hf]; rfl) ?_
       refine wX ?_
       try simp only [tq]
       simp [Tryz.f178, getT, twoF]
      ·refine wF rfl (by simp [show ¬ (op : Int) = 9 by omega]) ?_
       refine wK ?_
       by_cases ca : a = 0
       ·subst ca
        refine wR rfl (by simp [qje]; rfl) ?_
        refine wX ?_
        try simp only [tq]
        simp [Tryz.f178, getT, twoF, c4, c5, c6, c7, c8, c9]
       ·have ca' : (a != 0) = true := by simp [ca]
        by_cases cb : b = 0
        ·subst cb
         refine wR rfl (by simp [qje, ca']; rfl) ?_
         refine wX ?_
         try simp only [tq]
         simp [Tryz.f178, getT, twoF, c4, c5, c6, c7, c8, c9, ca]
        ·have cb' : (b != 0) = true := by simp [cb]
         refine wR rfl (by simp [qje, ca', cb']; rfl) ?_
         refine wX ?_
         try simp only [tq]
         simp [Tryz.f178, getT, twoF, c4, c5, c6, c7, c8, c9, ca, cb]
theorem two_ld (op : Nat) (a b : Int) (ha : Nb a) (hb : Nb b) (σ : Store) : LD S 178 [.t (I op), .t (I a), .t (I b)] σ = some (.t (getT (twoF op a b)), σ) :=
 qaj (A := A178) (v := .t (getT (twoF op a b))) (σ0 := []) rfl rfl rfl (two_lv op a b ha hb) rfl σ

/-! a tree that is a list of numbers -/
def kidN : T → Option Nat
 | .agg [.int .i64 (.ofNat n)] => some n
 | _ => none
def kidsG : List T → Option (List Nat)
 | [] => some []
 | x :: r => match kidN x, kidsG r with
  | some n, some l => some (n :: l)
  | _, _ => none
def qus : T → Option (List Nat)
 | .nils => some []
 | .list rows => kidsG rows
 | _ => none
theorem qwg : ∀ {rows : List T} {l : List Nat}, kidsG rows = some l → rows = qax l
 | [], l, h => by cases h; rfl
 | x :: r, l, h => by
  simp only [kidsG] at h
  split at h
  ·rename_i n l' h1 h2
   cases h
   have := qwg h2
   subst this
   unfold kidN at h1
   split at h1
   ·cases h1; rfl
   ·cases h1
  ·cases h
theorem qvn {x : T} {l : List Nat} (h : qus x = some l) : Is x l := by
 unfold qus at h
 split at h
 ·cases h; exact .inl ⟨rfl, rfl⟩
 ·exact .inr (by rw [qwg h])
 ·cases h
def qix (l : List Bool) : List T := l.map fun b => .agg [B b]
@[simp] theorem rowsB_len (l : List Bool) : (qix l).length = l.length := by simp [qix]
@[simp] theorem rowsB_get (l : List Bool) (i : Nat) : (qix l)[i]? = (l[i]?).map fun b => T.agg [B b] := by simp [qix]
def qgv (l : List Int) : List V := l.map fun n => V.t (I n)
@[simp] theorem intsZ_len (l : List Int) : (qgv l).length = l.length := by simp [qgv]
@[simp] theorem intsZ_get (l : List Int) (i : Nat) : (qgv l)[i]? = (l[i]?).map fun n => V.t (I n) := by simp [qgv]
theorem qth (l : List Int) (i : Nat) (n : Int) : (qgv l).set i (V.t (I n)) = qgv (l.set i n) := by simp [qgv, List.map_set]
theorem qll : ∀ n, qab [V.t (I 0)] n = qgv (List.replicate n 0)
 | 0 => rfl
 | n + 1 => by
  simp only [qab, qll n, List.replicate_succ]
  rfl
/-- a node's number: none: stuck; some none: there is none -/
def qpr (nums : List Int) (env : Env) (here : Nat) (op : Nat) (num : Int) (nm : List Nat) (kids : List Nat) : Option (Option Int) :=
 if op = 1 then some (some num) else if op = 2 then some (getE env nm) else if op = 3 then some (some here)
 else if op = 11 then match kids[0]? with
  | some k => match nums[k]? with
   | some a => some (some (qfn (a == 0)))
   | none => none
  | none => none
 else match kids[0]?, kids[1]? with
  | some k, some k2 => match nums[k]?, nums[k2]? with
   | some a, some b => some (twoF op a b)
   | _, _ => none
  | _, _ => none
def qsj (nums : List Int) (env : Env) (here : Nat) (op : Nat) (num : Int) (nm : List Nat) (kz : T) : Option (Option Int) := match qus kz with
 | some kids => qpr nums env here op num nm kids
 | none => none
def q3v : T → Option (Nat × Int × List Nat × T)
 | .agg [.int .i64 (.ofNat op), .int .i64 num, .str nm, kz] => some (op, num, nm, kz)
 | _ => none
theorem qwn {x : T} {op : Nat} {num : Int} {nm : List Nat} {kz : T} (h : q3v x = some (op, num, nm, kz)) : x = .agg [I op, I num, .str nm, kz] := by
 unfold q3v at h
 split at h
 ·cases h; rfl
 ·cases h
def qho (env : Env) (here : Nat) : List T → List Bool → Nat → List Int → Option (Option (List Int))
 | [], _, _, nums => some (some nums)
 | x :: r, m :: ms, i, nums => match q3v x with
  | none => none
  | some (op, num, nm, kz) => if m then match qsj nums env here op num nm kz with
    | none => none
    | some none => some none
    | some (some n) => if -9999 ≤ n ∧ n ≤ 9999 then qho env here r ms (i + 1) (nums.set i n) else some none
   else qho env here r ms (i + 1) nums
 | _ :: _, [], _, _ => none
/-- the marks of expressions that are right -/
structure MkOk (MK : T → Option (List Bool)) : Prop where
 ok : ∀ x ms, MK x = some ms → ∀ σ, LD S 174 [.t x] σ = some (.t (B true), σ)
 marks : ∀ x ms, MK x = some ms → ∀ σ, LD S 175 [.t x] σ = some (.t (.list (qix ms)), σ)
def qnm (MK : T → Option (List Bool)) (x : T) (env : Env) (here : Nat) : Option (Option Int) :=
 match x with
 | .agg [.list nodes] => match MK (.agg [.list nodes]) with
  | none => none
  | some ms => if ms.length = nodes.length ∧ 0 < nodes.length ∧ nodes.length ≤ 100 ∧ env.length ≤ 1000 then
    match qho env here nodes ms 0 (List.replicate nodes.length 0) with
    | none => none
    | some none => some none
    | some (some nums) => match nums[nodes.length - 1]? with
     | some n => some (some n)
     | none => none
   else none
 | _ => none
def vOk (v : Option Int) (n : Int) (ok : Bool) : Prop := match v with
 | some k => n = k ∧ ok = true
 | none => ok = false
theorem eval_lv {MK : T → Option (List Bool)} (hM : MkOk MK) {x : T} {env : Env} {here : Nat} {o : Option Int} (h : qnm MK x env here = some o) :
  ∃ σ', LV S 133 [.t x, .t (envT env), .t (I here)] [] = some (.t (getT o), σ') := by
 unfold qnm at h
 split at h
 rotate_left
 ·cases h
 rename_i nodes
 split at h
 ·cases h
 rename_i ms hms
 split at h
 rotate_left
 ·cases h
 rename_i hb
 obtain ⟨b1, b2, b3, b4⟩ := hb
 have k1 := hM.ok _ _ hms
 have k2 := hM.marks _ _ hms
 have hg := fun nm σ => q1o env nm (by omega) σ
 refine qbm (A := A133) rfl Tryz.func133 rfl ?_
 refine wR rfl (by simp; rfl) ?_
 refine wR rfl (by simp [k1]; rfl) ?_
 refine wF rfl (by simp) ?_
 refine wK ?_
 refine wR rfl (by simp [k2]; rfl) ?_
 have hrp := qll nodes.length
 have hnb : (nodes.length : Int) * 8 ≤ 140737488355328 := by omega
 refine wR rfl (by simp [hrp, hnb]; rfl) ?_
 refine wR rfl (by simp; rfl) ?_
 refine wB rfl ?_
 try simp only [tq]
 obtain ⟨w, hw⟩ : ∃ w, qho env here nodes ms 0 (List.replicate nodes.length 0) = some w := by
  cases hq : qho env here nodes ms 0 (List.replicate nodes.length 0) with
  | none => rw [hq] at h; cases h
  | some w => exact ⟨w, rfl⟩
 rw [hw] at h
 refine qat (I := fun m st τ => ∃ i nums, m = nodes.length - i ∧ i ≤ nodes.length ∧ nums.length = nodes.length ∧ (∀ a ∈ nums, Nb a) ∧ qho env here (nodes.drop i) (ms.drop i) i nums = some w ∧ st.vars = [(0, .t (.agg [.list nodes])), (1, .t (envT env)), (2, .t (I here)), (3, .ptr 0 0 0 1), (6, .t (I 0)), (7, .t (B false)), (8, .t (.list (qix ms))), (9, .sl 1 0 0 nodes.length 1), (10, .t (I i))] ∧ τ[0]? = some (.cells [.t (.list nodes)] 0 0) ∧ τ[1]? = some (.cells (qgv nums) 0 0)) ?_ nodes.length _ _ ⟨0, _, rfl, Nat.zero_le _, by simp, by simp [Nb], hw, by simp, rfl, rfl⟩
 clear hw
 rintro m ⟨vars, scr⟩ τ ⟨i, nums, rfl, hi, hnl, hnb2, hw, hv, t0, t1⟩
 simp only at hv
 subst hv
 have l1 := lt_of_get t1
 refine wR rfl (by simp [t0]; rfl) ?_
 by_cases c1 : i < nodes.length
 ·refine wT rfl (by simp [c1]) ?_
  refine wK ?_
  refine wB rfl ?_
  obtain ⟨x, hx⟩ := get_of_lt c1
  obtain ⟨mk, hmk⟩ := get_of_lt (show i < ms.length by omega)
  rw [qak hx, qak hmk] at hw
  simp only [qho] at hw
  split at hw
  ·cases hw
  rename_i op num nm kz hnp
  have := qwn hnp
  subst this
  clear hnp
  have hsb : ∀ c : V.Obj, (τ ++ [c])[0]? = some (.cells [.t (.list nodes)] 0 0) := fun c => by rw [List.getElem?_append_left (by omega)]; exact t0
  have hsc : ∀ c : V.Obj, (τ ++ [c])[1]? = some (.cells (qgv nums) 0 0) := fun c => by rw [List.getElem?_append_left (by omega)]; exact t1
  refine wR rfl (by simp [t0, hx, getA, setA, qao, qac]; rfl) ?_
  refine wR rfl (by simp [hmk]; rfl) ?_
  cases mk with
  | false =>
   simp only [Bool.false_eq_true, if_false] at hw
   refine wT rfl (by simp) ?_
   repeat apply qaw
   refine qal ?_
   try simp only [tq, if_true]
   refine wR rfl (by simp [IntWalk.i64_in ((i : Int) + 1) (by omega)]; rfl) ?_
   try simp only [tq]
   exact ⟨nodes.length - (i + 1), by omega, i + 1, nums, rfl, c1, hnl, hnb2, hw, by simp [envT], hsb _, hsc _⟩
  | true =>
   simp only [if_true] at hw
   refine wF rfl (by simp) ?_
   refine wK ?_
   refine wR rfl (by simp; rfl) ?_
   refine wR rfl (by simp; rfl) ?_
   refine wR rfl (by simp [getA]; rfl) ?_
   refine wB rfl ?_
   try simp only [tq]
   obtain ⟨v, hvn⟩ : ∃ v, qsj nums env here op num nm kz = some v := by
    cases hq : qsj nums env here op num nm kz with
    | none => rw [hq] at hw; cases hw
    | some v => exact ⟨v, rfl⟩
   rw [hvn] at hw
   have hbx : (τ ++ [V.Obj.cells [V.t (I op), V.t (I num), V.t (.str nm), V.t kz] 0 0])[τ.length]? = some (.cells [V.t (I op), V.t (I num), V.t (.str nm), V.t kz] 0 0) := by rw [getA]; rfl
   have hsb := hsb (V.Obj.cells [V.t (I op), V.t (I num), V.t (.str nm), V.t kz] 0 0)
   have hsc := hsc (V.Obj.cells [V.t (I op), V.t (I num), V.t (.str nm), V.t kz] 0 0)
   revert hbx hsb hsc
   generalize (τ ++ [V.Obj.cells [V.t (I op), V.t (I num), V.t (.str nm), V.t kz] 0 0]) = τ2
   intro hbx hsb hsc
   refine W.mono (Q := fun e st τ' => e = .normal ∧ τ' = τ2 ∧ ∃ (n : Int) (ok : Bool), vOk v n ok ∧ st.vars = [(0, .t (.agg [.list nodes])), (1, .t (envT env)), (2, .t (I here)), (3, .ptr 0 0 0 1), (6, .t (I 0)), (7, .t (B false)), (8, .t (.list (qix ms))), (9, .sl 1 0 0 nodes.length 1), (10, .t (I i)), (11, .ptr τ.length 0 0 4), (12, .t (I n)), (13, .t (B ok)), (41, .t (I op))]) ?_ (fun e st τ' hq => ?_)
   ·unfold qsj at hvn
    split at hvn
    rotate_left
    ·cases hvn
    rename_i kids hkids
    have hks := qvn hkids
    unfold qpr at hvn
    refine wR rfl (by simp; rfl) ?_
    by_cases d1 : op = 1
    ·rw [if_pos d1] at hvn
     cases hvn
     refine wT rfl (by simp [show (op : Int) = 1 by omega]) ?_
     refine wR rfl (by simp [hbx]; rfl) ?_
     try simp only [tq]
     exact ⟨trivial, trivial, num, true, ⟨rfl, rfl⟩, by simp⟩
    ·rw [if_neg d1] at hvn
     refine wF rfl (by simp [show ¬ (op : Int) = 1 by omega]) ?_
     refine wR rfl (by simp; rfl) ?_
     by_cases d2 : op = 2
     ·rw [if_pos d2] at hvn
      cases hvn
      refine wT rfl (by simp [show (op : Int) = 2 by omega]) ?_
      cases hge : getE env nm with
      | none =>
       have hg' := hg nm τ2
       rw [hge] at hg'
       refine wR rfl (by simp [hbx, hg', getT]; rfl) ?_
       try simp only [tq]
       exact ⟨trivial, trivial, 0, false, rfl, by simp⟩
      | some k =>
       have hg' := hg nm τ2
       rw [hge] at hg'
       refine wR rfl (by simp [hbx, hg', getT]; rfl) ?_
       try simp only [tq]
       exact ⟨trivial, trivial, k, true, ⟨rfl, rfl⟩, by simp⟩
     ·rw [if_neg d2] at hvn
      refine wF rfl (by simp [show ¬ (op : Int) = 2 by omega]) ?_
      refine wR rfl (by simp; rfl) ?_
      by_cases d3 : op = 3
      ·rw [if_pos d3] at hvn
       cases hvn
       refine wT rfl (by simp [show (op : Int) = 3 by omega]) ?_
       refine wR rfl (by simp; rfl) ?_
       try simp only [tq]
       exact ⟨trivial, trivial, here, true, ⟨rfl, rfl⟩, by simp⟩
      ·rw [if_neg d3] at hvn
       refine wF rfl (by simp [show ¬ (op : Int) = 3 by omega]) ?_
       refine wR rfl (by simp; rfl) ?_
       try simp only [tq]
       by_cases d4 : op = 11
       ·rw [if_pos d4] at hvn
        split at hvn
        rotate_left
        ·cases hvn
        rename_i k0 hk0
        split at hvn
        rotate_left
        ·cases hvn
        rename_i a0 ha0
        cases hvn
        refine wT rfl (by simp [show (op : Int) = 11 by omega]) ?_
        have hix : idxV 1 (.t kz) 0 = some (.t (.snap [I k0])) := hks.idx hk0
        have hlt := lt_of_get ha0
        have e1 : (k0 : Int) < nodes.length := by omega
        have e2 : k0 + 1 ≤ nodes.length := by omega
        refine wR rfl (by simp [hbx, hix, hsc, e1, e2, hnl, ha0, qje]; rfl) ?_
        try simp only [tq]
        exact ⟨trivial, trivial, qfn (a0 == 0), true, ⟨rfl, rfl⟩, by simp⟩
       ·rw [if_neg d4] at hvn
        refine wF rfl (by simp [show ¬ (op : Int) = 11 by omega]) ?_
        try simp only [tq]
        split at hvn
        rotate_left
        ·cases hvn
        rename_i k0 k1' hk0 hk1
        split at hvn
        rotate_left
        ·cases hvn
        rename_i a0 a1 ha0 ha1
        cases hvn
        have hix : idxV 1 (.t kz) 0 = some (.t (.snap [I k0])) := hks.idx hk0
        have hix1 : idxV 1 (.t kz) 1 = some (.t (.snap [I k1'])) := hks.idx hk1
        have hlt := lt_of_get ha0
        have hlt1 := lt_of_get ha1
        have e1 : (k0 : Int) < nodes.length := by omega
        have e2 : k0 + 1 ≤ nodes.length := by omega
        have e3 : (k1' : Int) < nodes.length := by omega
        have e4 : k1' + 1 ≤ nodes.length := by omega
        have htw := two_ld op a0 a1 (hnb2 _ (List.mem_of_getElem? ha0)) (hnb2 _ (List.mem_of_getElem? ha1)) τ2
        cases hge : twoF op a0 a1 with
        | none =>
         rw [hge] at htw
         refine wR rfl (by simp [hbx, hix, hix1, hsc, e1, e2, e3, e4, hnl, ha0, ha1, htw, getT]; rfl) ?_
         try simp only [tq]
         exact ⟨trivial, trivial, 0, false, rfl, by simp⟩
        | some k =>
         rw [hge] at htw
         refine wR rfl (by simp [hbx, hix, hix1, hsc, e1, e2, e3, e4, hnl, ha0, ha1, htw, getT]; rfl) ?_
         try simp only [tq]
         exact ⟨trivial, trivial, k, true, ⟨rfl, rfl⟩, by simp⟩
   ·obtain ⟨rfl, rfl, n, ok, hvk, hvars⟩ := hq
    obtain ⟨vars2, scr2⟩ := st
    simp only at hvars
    subst hvars
    try simp only [tq]
    have hlt : (i : Int) < nodes.length := by omega
    have hl2 : i + 1 ≤ nodes.length := c1
    cases v with
    | none =>
     simp only [vOk] at hvk
     subst hvk
     simp only [Option.some.injEq] at hw
     subst hw
     simp only [Option.some.injEq] at h
     subst h
     refine wR rfl (by simp; rfl) ?_
     refine wT rfl (by simp) ?_
     refine wR rfl (by simp; rfl) ?_
     try simp only [tq]
     refine wX ?_
     try simp only [tq]
     exact ⟨trivial, (by simp [Tryz.f133, getT])⟩
    | some k0 =>
     simp only [vOk] at hvk
     obtain ⟨rfl, rfl⟩ := hvk
     have hin := qqo n (-9999) 9999 τ'
     simp only at hw
     by_cases c3 : -9999 ≤ n ∧ n ≤ 9999
     ·rw [if_pos c3] at hw
      have ei : inF n (-9999) 9999 = true := by simp [inF, c3.1, c3.2]
      rw [ei] at hin
      refine wR rfl (by simp [hin]; rfl) ?_
      refine wF rfl (by simp) ?_
      refine wK ?_
      refine wR rfl (by simp [hsc, hlt, hl2, hnl, qac]; rfl) ?_
      refine wR rfl (by simp [IntWalk.i64_in ((i : Int) + 1) (by omega)]; rfl) ?_
      try simp only [tq]
      refine ⟨nodes.length - (i + 1), by omega, i + 1, nums.set i n, rfl, c1, by simpa using hnl, fun a ha => ?_, hw, by simp [envT], ?_, ?_⟩
      ·rcases List.mem_or_eq_of_mem_set ha with q | rfl
       ·exact hnb2 a q
       ·exact c3
      ·rw [List.getElem?_set_ne (by omega)]; exact hsb
      ·rw [List.getElem?_set_self (lt_of_get hsc)]
       exact congrArg (fun c => some (V.Obj.cells c 0 0)) (qth nums i n)
     ·rw [if_neg c3] at hw
      simp only [Option.some.injEq] at hw
      subst hw
      simp only [Option.some.injEq] at h
      subst h
      have ei : inF n (-9999) 9999 = false := by
       simp only [inF, Bool.and_eq_false_iff, decide_eq_false_iff_not]
       omega
      rw [ei] at hin
      refine wR rfl (by simp [hin]; rfl) ?_
      refine wT rfl (by simp) ?_
      refine wR rfl (by simp; rfl) ?_
      try simp only [tq]
      refine wX ?_
      try simp only [tq]
      exact ⟨trivial, (by simp [Tryz.f133, getT])⟩
 ·refine wF rfl (by simp [c1]) ?_
  repeat apply qaw
  refine qal ?_
  try simp only [tq, if_true]
  have : i = nodes.length := by omega
  subst this
  rw [List.drop_length] at hw
  simp only [qho, Option.some.injEq] at hw
  subst hw
  simp only at h
  split at h
  rotate_left
  ·cases h
  rename_i n hn
  simp only [Option.some.injEq] at h
  subst h
  have e1 : (nodes.length : Int) - 1 = ((nodes.length - 1 : Nat) : Int) := by omega
  have e2 : (((nodes.length - 1 : Nat) : Int)) < nodes.length := by omega
  have e3 : nodes.length - 1 + 1 ≤ nodes.length := by omega
  refine wR rfl (by simp [e1, e2, e3, t1, hnl, hn, IntWalk.i64_in ((nodes.length - 1 : Nat) : Int) (by omega)]; rfl) ?_
  try simp only [tq]
  refine wX ?_
  try simp only [tq]
  exact ⟨trivial, (by simp [Tryz.f133, getT])⟩
theorem qlm {MK : T → Option (List Bool)} (hM : MkOk MK) {x : T} {env : Env} {here : Nat} {o : Option Int} (h : qnm MK x env here = some o) (σ : Store) :
  LD S 133 [.t x, .t (envT env), .t (I here)] σ = some (.t (getT o), σ) := by
 obtain ⟨σ', h1⟩ := eval_lv hM h
 exact qaj (A := A133) (args := [.t x, .t (envT env), .t (I here)]) (v := .t (getT o)) rfl rfl rfl h1 (by cases o <;> rfl) σ
end X
namespace X

attribute [-simp] lenV idxV getElem?_pos
/-! ### Args of a call -/
def qhr (MK : T → Option (List Bool)) (env : Env) (here : Nat) : List T → List Nat → Option (Option (List Nat))
 | [], acc => some (some acc)
 | x :: r, acc => match qnm MK x env here with
  | none => none
  | some none => some none
  | some (some (.negSucc _)) => some none
  | some (some (.ofNat n)) => if n ≤ 99 then qhr MK env here r (acc ++ [n]) else some none
def OkArgs (o : Option (List Nat)) (y : T) (ok : Bool) : Prop := match o with
 | some l => ok = true ∧ y = .list (qax l)
 | none => ok = false
theorem args_lv {MK : T → Option (List Bool)} (hM : MkOk MK) {ax : T} {l : List T} (hx : Syms ax l) (hl : l.length ≤ 1000) {env : Env} {here : Nat} {o : Option (List Nat)} (h : qhr MK env here l [] = some o) (hsz : ∀ x ∈ l, ∃ c, x = .agg [c]) :
  ∃ v σ', LV S 85 [.t ax, .t (envT env), .t (I here)] [] = some (v, σ') ∧ ∃ y ok, frz 40 σ' v = some (.tup [y, B ok]) ∧ OkArgs o y ok := by
 refine qaq (A := A85) rfl Tryz.func85 rfl ?_
 refine wR rfl (by simp; rfl) ?_
 refine wR rfl (by simp [qaa, qab, chunk, qao]; rfl) ?_
 refine wR rfl (by simp; rfl) ?_
 refine wB rfl ?_
 try simp only [tq]
 refine qat (I := fun m st τ => ∃ k acc g w, m = l.length - k ∧ k ≤ l.length ∧ acc.length ≤ k ∧ qhr MK env here (l.drop k) acc = some o ∧ w ≤ g ∧ st.vars = [(0, .t ax), (1, .t (envT env)), (2, .t (I here)), (6, .t .nils), (7, .t (B false)), (8, .sl 0 g 0 acc.length 1), (9, .t (I k))] ∧ τ = [.cells (ints acc) g w]) ?_ l.length _ _ ⟨0, [], 0, 0, rfl, Nat.zero_le _, by simp, h, by omega, by simp, rfl⟩
 clear h
 rintro m ⟨vars, scr⟩ τ ⟨k, acc, g, w, rfl, hk, hak, h, hw, hvs, rfl⟩
 simp only at hvs
 subst hvs
 have fin : ∀ (b : Bool), frz 40 [V.Obj.cells (ints acc) g w] (.tup [.sl 0 g 0 acc.length 1, .t (B b)]) = some (.tup [.list (qax acc), B b]) := fun b => by
  have := qhe (σ := [.cells (ints acc) g w]) (d := 0) (g := g) (w := w) (l := acc) 37 rfl hw
  rw [frz, frzs, this]
  rfl
 refine wR rfl (by simp [hx.len]; rfl) ?_
 by_cases c1 : k < l.length
 ·refine wT rfl (by simp [c1]) ?_
  refine wK ?_
  refine wB rfl ?_
  obtain ⟨x, hxk⟩ := get_of_lt c1
  obtain ⟨c, rfl⟩ := hsz x (List.mem_of_getElem? hxk)
  rw [qak hxk] at h
  simp only [qhr] at h
  have hix := hx.idxk hxk (n := 1) rfl
  split at h
  ·cases h
  ·rename_i hev
   cases h
   have he := qlm hM hev
   refine wR rfl (by simp [hix, he, getT]; rfl) ?_
   refine wR rfl (by simp; rfl) ?_
   refine wT rfl (by simp) ?_
   refine wR rfl (by simp; rfl) ?_
   try simp only [tq]
   refine wX ?_
   try simp only [tq]
   exact ⟨trivial, .tup [.sl 0 g 0 acc.length 1, .t (B false)], (by simp [Tryz.f85]), _, _, fin false, rfl⟩
  ·rename_i n hev
   cases h
   have he := qlm hM hev
   have hin := qqo (Int.negSucc n) 0 99
   have ei : inF (Int.negSucc n) 0 99 = false := by
    simp only [inF, Bool.and_eq_false_iff, decide_eq_false_iff_not]
    omega
   rw [ei] at hin
   refine wR rfl (by simp [hix, he, getT]; rfl) ?_
   refine wR rfl (by simp [hin]; rfl) ?_
   refine wT rfl (by simp) ?_
   refine wR rfl (by simp; rfl) ?_
   try simp only [tq]
   refine wX ?_
   try simp only [tq]
   exact ⟨trivial, .tup [.sl 0 g 0 acc.length 1, .t (B false)], (by simp [Tryz.f85]), _, _, fin false, rfl⟩
  ·rename_i n hev
   have he := qlm hM hev
   simp only [Int.ofNat_eq_natCast] at he
   have hin := qqo (n : Int) 0 99
   by_cases c2 : n ≤ 99
   ·rw [if_pos c2] at h
    have ei : inF (n : Int) 0 99 = true := by simp [inF]; omega
    rw [ei] at hin
    have hbn : (acc.length + 1) * 8 ≤ 140737488355328 := by omega
    refine wR rfl (by simp [hix, he, getT]; rfl) ?_
    refine wR rfl (by simp [hin]; rfl) ?_
    refine wF rfl (by simp) ?_
    refine wK ?_
    refine wR rfl (by simp [qaa, qab, chunk, qao, qap, qaf, qag, hbn, hw]; rfl) ?_
    refine wR rfl (by simp [IntWalk.i64_in ((k : Int) + 1) (by omega)]; rfl) ?_
    try simp only [tq]
    exact ⟨l.length - (k + 1), by omega, k + 1, acc ++ [n], g + 1, w, rfl, c1, by simp; omega, h, by omega, by simp [envT], by rw [← qqb]⟩
   ·rw [if_neg c2] at h
    cases h
    have ei : inF (n : Int) 0 99 = false := by
     simp only [inF, Bool.and_eq_false_iff, decide_eq_false_iff_not]
     omega
    rw [ei] at hin
    refine wR rfl (by simp [hix, he, getT]; rfl) ?_
    refine wR rfl (by simp [hin]; rfl) ?_
    refine wT rfl (by simp) ?_
    refine wR rfl (by simp; rfl) ?_
    try simp only [tq]
    refine wX ?_
    try simp only [tq]
    exact ⟨trivial, .tup [.sl 0 g 0 acc.length 1, .t (B false)], (by simp [Tryz.f85]), _, _, fin false, rfl⟩
 ·refine wF rfl (by simp [c1]) ?_
  repeat apply qaw
  refine qal ?_
  try simp only [tq, if_true]
  have : k = l.length := by omega
  subst this
  rw [List.drop_length] at h
  simp only [qhr, Option.some.injEq] at h
  subst h
  refine wR rfl (by simp; rfl) ?_
  try simp only [tq]
  refine wX ?_
  try simp only [tq]
  exact ⟨trivial, .tup [.sl 0 g 0 acc.length 1, .t (B true)], (by simp [Tryz.f85]), _, _, fin true, rfl, rfl⟩
def szOk : List T → Bool
 | [] => true
 | .agg [_] :: r => szOk r
 | _ :: _ => false
theorem qtn : ∀ {l : List T}, szOk l = true → ∀ x ∈ l, ∃ c, x = .agg [c]
 | [], h, x, hx => by cases hx
 | y :: r, h, x, hx => by
  unfold szOk at h
  split at h
  ·rename_i e; cases e
  ·rename_i c r' e
   simp only [List.cons.injEq] at e
   obtain ⟨rfl, rfl⟩ := e
   rcases List.mem_cons.1 hx with rfl | hx
   ·exact ⟨c, rfl⟩
   ·exact qtn h x hx
  ·cases h
def qiz (MK : T → Option (List Bool)) (ax : T) (env : Env) (here : Nat) : Option (Option (List Nat)) := match qce ax with
 | some l => if l.length ≤ 1000 ∧ szOk l = true then qhr MK env here l [] else none
 | none => none
theorem args_ld {MK : T → Option (List Bool)} (hM : MkOk MK) {ax : T} {env : Env} {here : Nat} {o : Option (List Nat)} (h : qiz MK ax env here = some o) :
  ∃ y ok, (∀ σ, LD S 85 [.t ax, .t (envT env), .t (I here)] σ = some (.t (.tup [y, B ok]), σ)) ∧ OkArgs o y ok := by
 unfold qiz at h
 split at h
 rotate_left
 ·cases h
 rename_i l hl
 split at h
 rotate_left
 ·cases h
 rename_i hb
 obtain ⟨v, σ', h1, y, ok, h2, h3⟩ := args_lv hM (qdt hl) hb.1 h (qtn hb.2)
 exact ⟨y, ok, fun σ => qaj (A := A85) (args := [.t ax, .t (envT env), .t (I here)]) rfl rfl rfl h1 h2 σ, h3⟩
/-! ### Sets -/
def setR (rows : List Nat) (b : Nat) : Nat → Nat → Bool
 | 0, _ => false
 | f + 1, i => match rows[i]?, rows[i + 1]? with
  | some x, some y => if x ≤ b ∧ b ≤ y then true else setR rows b f (i + 2)
  | _, _ => false
/-- sets that are right, and their rows -/
def qoh (SR : List Nat → Option (List Nat)) : Prop := ∀ s rows, SR s = some rows → rows.length ≤ 1000 ∧ ∀ σ, LD S 172 [.t (.str s)] σ = some (.t (.tup [.str rows, B true]), σ)
theorem inSet_lv {SR : List Nat → Option (List Nat)} (hS : qoh SR) {s rows : List Nat} (h : SR s = some rows) (b : Nat) : ∃ σ', LV S 132 [.t (.str s), .t (.int .u8 b)] [] = some (.t (B (setR rows b rows.length 0)), σ') := by
 obtain ⟨hl, hr⟩ := hS _ _ h
 refine qbm (A := A132) rfl Tryz.func132 rfl ?_
 refine wR rfl (by simp; rfl) ?_
 refine wR rfl (by simp [hr]; rfl) ?_
 refine wR rfl (by simp; rfl) ?_
 refine wB rfl ?_
 try simp only [tq]
 refine qat (I := fun m st τ => ∃ i, i ≤ rows.length + 1 ∧ rows.length ≤ i + 2 * m ∧ setR rows b m i = setR rows b rows.length 0 ∧ st.vars = [(0, .t (.str s)), (1, .t (.int .u8 b)), (4, .t (B false)), (5, .t (.str rows)), (6, .t (B true)), (7, .t (I i))] ∧ τ = []) ?_ rows.length _ _ ⟨0, by omega, by omega, rfl, by simp, rfl⟩
 rintro m ⟨vars, scr⟩ τ ⟨i, hi, hm, he, hvs, rfl⟩
 simp only at hvs
 subst hvs
 by_cases c1 : i + 1 < rows.length
 ·cases m with
  | zero => omega
  | succ m =>
  obtain ⟨x, hx⟩ := get_of_lt (show i < rows.length by omega)
  obtain ⟨y, hy⟩ := get_of_lt c1
  simp only [setR, hx, hy] at he
  have c1' : (i : Int) + 1 < rows.length := by omega
  refine wR rfl (by simp [IntWalk.i64_in ((i : Int) + 1) (by omega), c1']; rfl) ?_
  refine wT rfl (by simp) ?_
  refine wK ?_
  refine wB rfl ?_
  have hi0 : (i : Int) < rows.length := by omega
  have e2 : ((i : Int) + 1).toNat = i + 1 := by omega
  have e3 : (0 : Int) ≤ (i : Int) + 1 := by omega
  by_cases c2 : x ≤ b
  ·by_cases c3 : b ≤ y
   ·rw [if_pos ⟨c2, c3⟩] at he
    refine wR rfl (by simp [hx, hy, c2, c3, hi0, c1', e2, e3, IntWalk.i64_in ((i : Int) + 1) (by omega)]; rfl) ?_
    refine wT rfl (by simp) ?_
    refine wR rfl (by simp; rfl) ?_
    refine wX ?_
    try simp only [tq]
    simp [Tryz.f132, he]
   ·rw [if_neg (fun e => c3 e.2)] at he
    refine wR rfl (by simp [hx, hy, c2, c3, hi0, c1', e2, e3, IntWalk.i64_in ((i : Int) + 1) (by omega)]; rfl) ?_
    refine wF rfl (by simp) ?_
    refine wK ?_
    refine wR rfl (by simp [IntWalk.i64_in ((i : Int) + 2) (by omega)]; rfl) ?_
    try simp only [tq]
    exact ⟨m, Nat.lt_succ_self _, i + 2, by omega, by omega, he, by simp, by simp⟩
  ·rw [if_neg (fun e => c2 e.1)] at he
   refine wR rfl (by simp [hx, hy, c2, hi0, c1', e2, e3]; rfl) ?_
   refine wF rfl (by simp) ?_
   refine wK ?_
   refine wR rfl (by simp [IntWalk.i64_in ((i : Int) + 2) (by omega)]; rfl) ?_
   try simp only [tq]
   exact ⟨m, Nat.lt_succ_self _, i + 2, by omega, by omega, he, by simp, by simp⟩
 ·have c1' : ¬ (i : Int) + 1 < rows.length := by omega
  have e0 : setR rows b m i = false := by
   cases m with
   | zero => rfl
   | succ m =>
    simp only [setR]
    rw [List.getElem?_eq_none (show rows.length ≤ i + 1 by omega)]
    cases rows[i]? <;> rfl
  rw [e0] at he
  refine wR rfl (by simp [IntWalk.i64_in ((i : Int) + 1) (by omega), c1']; rfl) ?_
  refine wF rfl (by simp) ?_
  repeat apply qaw
  refine qal ?_
  try simp only [tq, if_true]
  refine wR rfl (by simp; rfl) ?_
  refine wX ?_
  try simp only [tq]
  simp [Tryz.f132, he]
theorem inSet_ld {SR : List Nat → Option (List Nat)} (hS : qoh SR) {s rows : List Nat} (h : SR s = some rows) (b : Nat) (σ : Store) : LD S 132 [.t (.str s), .t (.int .u8 b)] σ = some (.t (B (setR rows b rows.length 0)), σ) := by
 obtain ⟨σ', h1⟩ := inSet_lv hS h b
 exact qaj (A := A132) (args := [.t (.str s), .t (.int .u8 b)]) (v := .t (B (setR rows b rows.length 0))) rfl rfl rfl h1 rfl σ
end X
namespace X
attribute [-simp] lenV idxV getElem?_pos
/-! ### Syms that are no calls -/
def qio (SR : List Nat → Option (List Nat)) (MK : T → Option (List Bool)) (text : List Nat) (x : T) (env : Env) (pos : Nat) : Option (Option Nat) :=
 match x with
 | .agg [.int .i64 (.ofNat kind), .str tx, ax, .str bs] =>
  if ¬ (pos ≤ 1000000 ∧ text.length ≤ 1000000) then none else
  if kind = 1 then if tx.length ≤ 1000000 then some (if pos + tx.length ≤ text.length ∧ (text.take (pos + tx.length)).drop pos = tx then some (pos + tx.length) else none) else none
  else if kind = 2 then match text[pos]? with
   | none => some none
   | some b => match SR tx with
    | none => none
    | some rows => some (if setR rows b rows.length 0 then some (pos + 1) else none)
  else match qce ax with
   | some (.agg [c] :: _) => match qnm MK (.agg [c]) env pos with
    | none => none
    | some none => some none
    | some (some n) => some (if n = 0 then none else some pos)
   | _ => none
 | _ => none
def q2v (r : Option Nat) (n : Int) (ok : Bool) : Prop := match r with
 | some p => ok = true ∧ n = (p : Int)
 | none => ok = false
theorem plain_lv {SR : List Nat → Option (List Nat)} (hS : qoh SR) {MK : T → Option (List Bool)} (hM : MkOk MK) {text : List Nat} {x : T} {env : Env} {pos : Nat} {r : Option Nat} (h : qio SR MK text x env pos = some r) :
  ∃ v σ', LV S 83 [.t x, .t (.str text), .t (.agg [I pos, envT env])] [] = some (v, σ') ∧ ∃ n ok, v = .t (.tup [I n, B ok]) ∧ q2v r n ok := by
 unfold qio at h
 split at h
 rotate_left
 ·cases h
 rename_i kind tx ax bs
 split at h
 ·cases h
 rename_i hpt
 obtain ⟨hp, ht⟩ := Classical.not_not.1 hpt
 refine qaq (A := A83) rfl Tryz.func83 rfl ?_
 refine wR rfl (by simp; rfl) ?_
 refine wR rfl (by simp; rfl) ?_
 refine wB rfl ?_
 refine wR rfl (by simp; rfl) ?_
 try simp only [tq]
 by_cases k1 : kind = 1
 ·rw [if_pos k1] at h
  split at h
  rotate_left
  ·cases h
  rename_i hlt
  cases h
  refine wT rfl (by simp [show (kind : Int) = 1 by omega]) ?_
  refine wR rfl (by simp; rfl) ?_
  try simp only [tq]
  have hw := IntWalk.i64_in ((pos : Int) + tx.length) (by omega)
  have hle : (pos : Int) ≤ pos + tx.length := by omega
  have htn : ((pos : Int) + tx.length).toNat = pos + tx.length := by omega
  by_cases c1 : pos + tx.length ≤ text.length
  ·have c1' : (pos : Int) + tx.length ≤ text.length := by omega
   by_cases c2 : (text.take (pos + tx.length)).drop pos = tx
   ·rw [if_pos ⟨c1, c2⟩]
    refine wR rfl (by simp [hw, c1', c2, hle, htn, eqL_eq]; rfl) ?_
    try simp only [tq]
    refine wX ?_
    try simp only [tq]
    exact ⟨trivial, _, (by simp [Tryz.f83]), (pos : Int) + tx.length, true, rfl, rfl, by simp⟩
   ·rw [if_neg (fun e => c2 e.2)]
    refine wR rfl (by simp [hw, c1', c2, hle, htn, eqL_eq]; rfl) ?_
    try simp only [tq]
    refine wX ?_
    try simp only [tq]
    exact ⟨trivial, _, (by simp [Tryz.f83]), (pos : Int) + tx.length, false, rfl, rfl⟩
  ·have c1' : ¬ (pos : Int) + tx.length ≤ text.length := by omega
   rw [if_neg (fun e => c1 e.1)]
   refine wR rfl (by simp [hw, c1']; rfl) ?_
   try simp only [tq]
   refine wX ?_
   try simp only [tq]
   exact ⟨trivial, _, (by simp [Tryz.f83]), (pos : Int) + tx.length, false, rfl, rfl⟩
 ·rw [if_neg k1] at h
  refine wF rfl (by simp [show ¬ (kind : Int) = 1 by omega]) ?_
  refine wR rfl (by simp; rfl) ?_
  have hw1 := IntWalk.i64_in ((pos : Int) + 1) (by omega)
  by_cases k2 : kind = 2
  ·rw [if_pos k2] at h
   refine wT rfl (by simp [show (kind : Int) = 2 by omega]) ?_
   split at h
   ·rename_i hb
    cases h
    have c1 : ¬ pos < text.length := fun hlt => by
     rw [List.getElem?_eq_getElem hlt] at hb; cases hb
    have c1' : ¬ (pos : Int) < text.length := by omega
    refine wR rfl (by simp [hw1, c1']; rfl) ?_
    try simp only [tq]
    refine wX ?_
    try simp only [tq]
    exact ⟨trivial, _, (by simp [Tryz.f83]), (pos : Int) + 1, false, rfl, rfl⟩
   ·rename_i b hb
    have c1 := lt_of_get hb
    have c1' : (pos : Int) < text.length := by omega
    split at h
    ·cases h
    rename_i rows hrows
    cases h
    have hin := inSet_ld hS hrows b
    cases hset : setR rows b rows.length 0 with
    | true =>
     rw [hset] at hin
     refine wR rfl (by simp [hw1, c1', hb, hin]; rfl) ?_
     try simp only [tq]
     refine wX ?_
     try simp only [tq]
     exact ⟨trivial, _, (by simp [Tryz.f83]), (pos : Int) + 1, true, rfl, rfl, by simp⟩
    | false =>
     rw [hset] at hin
     refine wR rfl (by simp [hw1, c1', hb, hin]; rfl) ?_
     try simp only [tq]
     refine wX ?_
     try simp only [tq]
     exact ⟨trivial, _, (by simp [Tryz.f83]), (pos : Int) + 1, false, rfl, rfl⟩
  ·rw [if_neg k2] at h
   refine wF rfl (by simp [show ¬ (kind : Int) = 2 by omega]) ?_
   refine wK ?_
   try simp only [tq]
   split at h
   rotate_left
   ·cases h
   rename_i c rest hax
   have hsy := qdt hax
   have hix : idxV 1 (.t ax) 0 = some (.t (.snap [c])) := by
    rcases hsy with ⟨rfl, e⟩ | rfl
    ·cases e
    ·rfl
   split at h
   ·cases h
   ·rename_i hev
    cases h
    have he := qlm hM hev
    refine wR rfl (by simp [hix, he, getT]; rfl) ?_
    refine wR rfl (by simp; rfl) ?_
    try simp only [tq]
    refine wX ?_
    try simp only [tq]
    exact ⟨trivial, _, (by simp [Tryz.f83]), (pos : Int), false, rfl, rfl⟩
   ·rename_i n hev
    cases h
    have he := qlm hM hev
    by_cases hn : n = 0
    ·subst hn
     refine wR rfl (by simp [hix, he, getT]; rfl) ?_
     refine wR rfl (by simp; rfl) ?_
     try simp only [tq]
     refine wX ?_
     try simp only [tq]
     exact ⟨trivial, _, (by simp [Tryz.f83]), (pos : Int), false, rfl, rfl⟩
    ·have hn' : (n != 0) = true := by simp [hn]
     refine wR rfl (by simp [hix, he, getT]; rfl) ?_
     refine wR rfl (by simp [hn']; rfl) ?_
     try simp only [tq]
     rw [if_neg hn]
     refine wX ?_
     try simp only [tq]
     exact ⟨trivial, _, (by simp [Tryz.f83]), (pos : Int), true, rfl, rfl, rfl⟩
theorem plain_ld {SR : List Nat → Option (List Nat)} (hS : qoh SR) {MK : T → Option (List Bool)} (hM : MkOk MK) {text : List Nat} {x : T} {env : Env} {pos : Nat} {r : Option Nat} (h : qio SR MK text x env pos = some r) :
  ∃ n ok, (∀ σ, LD S 83 [.t x, .t (.str text), .t (.agg [I pos, envT env])] σ = some (.t (.tup [I n, B ok]), σ)) ∧ q2v r n ok := by
 obtain ⟨v, σ', h1, n, ok, rfl, h3⟩ := plain_lv hS hM h
 exact ⟨n, ok, fun σ => qaj (A := A83) (args := [.t x, .t (.str text), .t (.agg [I pos, envT env])]) rfl rfl rfl h1 rfl σ, h3⟩
end X
namespace X
attribute [-simp] lenV idxV getElem?_pos
/-! ### Names, what is known -/
/-- names that are right -/
def NmOk (VN : List Nat → Bool) : Prop := ∀ s, VN s = true → ∀ σ, LD S 126 [.t (.str s)] σ = some (.t (B true), σ)
def qeh (pv : Option (List Nat)) : Env → Bool
 | [] => true
 | p :: r => inF p.2 (-9999) 9999 && ((match pv with
     | some q => qdn q p.1
     | none => true) && qeh (some p.1) r)
def qgf (e : Env) : Bool := qeh none e && decide (e.length ≤ 6)
def qgw (VN : List Nat → Bool) (e : Env) : Bool := e.all fun p => VN p.1
theorem envOk_lv {VN : List Nat → Bool} (hV : NmOk VN) {e : Env} (ha : qgw VN e = true) (hl : e.length ≤ 1048576) : LV S 136 [.t (envT e)] [] = some (.t (B (qgf e)), []) := by
 refine qas (A := A136) rfl Tryz.func136 rfl ?_
 refine wR rfl (by simp; rfl) ?_
 refine wR rfl (by simp; rfl) ?_
 refine wB rfl ?_
 try simp only [tq]
 refine qat (I := fun m st τ => ∃ k, m = e.length - k ∧ k ≤ e.length ∧ (∃ pv, ((k = 0 ∧ pv = none) ∨ ∃ j q, k = j + 1 ∧ e[j]? = some q ∧ pv = some q.1) ∧ qgf e = (qeh pv (e.drop k) && decide (e.length ≤ 6))) ∧ st.vars = [(0, .t (envT e)), (2, .t (B false)), (3, .t (I k))] ∧ τ = []) ?_ e.length _ _ ⟨0, rfl, Nat.zero_le _, ⟨none, .inl ⟨rfl, rfl⟩, rfl⟩, by simp [envT], rfl⟩
 rintro m ⟨vars, scr⟩ τ ⟨k, rfl, hk, ⟨pv, hpv, he⟩, hv, rfl⟩
 simp only at hv
 subst hv
 refine wR rfl (by simp [envT]; rfl) ?_
 by_cases c1 : k < e.length
 ·refine wT rfl (by simp [c1]) ?_
  refine wK ?_
  refine wB rfl ?_
  obtain ⟨p, hp⟩ := get_of_lt c1
  rw [qak hp] at he
  simp only [qeh] at he
  have hvn := hV p.1 (by have := List.all_eq_true.1 ha p (List.mem_of_getElem? hp); exact this)
  have hin := qqo p.2 (-9999) 9999
  cases hi : inF p.2 (-9999) 9999 with
  | false =>
   rw [hi] at hin he
   refine wR rfl (by simp [envT, hp, rowE, hvn, hin]; rfl) ?_
   refine wT rfl (by simp) ?_
   refine wR rfl (by simp; rfl) ?_
   refine wX ?_
   try simp only [tq]
   simp [Tryz.f136, he]
  | true =>
   rw [hi] at hin he
   rcases hpv with ⟨rfl, rfl⟩ | ⟨j, q, rfl, hq, rfl⟩
   ·refine wR rfl (by simp [envT, hp, rowE, hvn, hin]; rfl) ?_
    refine wF rfl (by simp) ?_
    refine wK ?_
    refine wR rfl (by simp [IntWalk.i64_in ((0 : Int) + 1) (by omega)]; rfl) ?_
    try simp only [tq]
    exact ⟨e.length - 1, by omega, 1, rfl, c1, ⟨_, .inr ⟨0, p, rfl, hp, rfl⟩, by simpa using he⟩, by simp [envT, IntWalk.i64_in (1 : Int) (by omega)], by simp⟩
   ·have e1 : ((j : Int) + 1 - 1) = j := by omega
    have e2 : (0 : Int) < (j : Int) + 1 := by omega
    have e3 : ((j : Int) + 1).toNat = j + 1 := by omega
    have e4 : (0 : Int) ≤ (j : Int) + 1 := by omega
    cases hlt : qdn q.1 p.1 with
    | true =>
     simp only [hlt] at he
     refine wR rfl (by simp [envT, hp, hq, rowE, hvn, hin, e1, e2, e3, e4, hlt, IntWalk.i64_in (j : Int) (by omega)]; rfl) ?_
     refine wF rfl (by simp) ?_
     refine wK ?_
     refine wR rfl (by simp [IntWalk.i64_in ((j : Int) + 1 + 1) (by omega)]; rfl) ?_
     try simp only [tq]
     exact ⟨e.length - (j + 1 + 1), by omega, j + 1 + 1, rfl, c1, ⟨_, .inr ⟨j + 1, p, rfl, hp, rfl⟩, by simpa using he⟩, by simp [envT], by simp⟩
    | false =>
     simp only [hlt] at he
     refine wR rfl (by simp [envT, hp, hq, rowE, hvn, hin, e1, e2, e3, e4, hlt, IntWalk.i64_in (j : Int) (by omega)]; rfl) ?_
     refine wT rfl (by simp) ?_
     refine wR rfl (by simp; rfl) ?_
     refine wX ?_
     try simp only [tq]
     simp [Tryz.f136, he]
 ·refine wF rfl (by simp [c1]) ?_
  repeat apply qaw
  refine qal ?_
  try simp only [tq, if_true]
  have : k = e.length := by omega
  subst this
  rw [List.drop_length] at he
  simp only [qeh, Bool.true_and] at he
  rw [he]
  by_cases c2 : e.length ≤ 6
  ·have c2' : (e.length : Int) ≤ 6 := by omega
   refine wR rfl (by simp [envT, c2']; rfl) ?_
   refine wX ?_
   try simp only [tq]
   simp [Tryz.f136, c2]
  ·have c2' : ¬ (e.length : Int) ≤ 6 := by omega
   refine wR rfl (by simp [envT, c2']; rfl) ?_
   refine wX ?_
   try simp only [tq]
   simp [Tryz.f136, c2]

theorem envOk_ld {VN : List Nat → Bool} (hV : NmOk VN) {e : Env} (ha : qgw VN e = true) (hl : e.length ≤ 1048576) {d g w : Nat} {σ : Store} {cs : List V} (hd : σ[d]? = some (.cells cs g w)) (hf : frz 40 σ (.sl d g 0 e.length 2) = some (envT e)) : LD S 136 [.sl d g 0 e.length 2] σ = some (.t (B (qgf e)), σ) :=
 qck (A := A136) rfl rfl (σ0 := []) (ts := [envT e]) (by simp only [frzs, hf]) (envOk_lv hV ha hl) rfl
def cellsE : Env → List V
 | [] => []
 | p :: r => .t (.str p.1) :: .t (I p.2) :: cellsE r
theorem qch : ∀ (l : Env), (cellsE l).length = l.length * 2
 | [] => rfl
 | p :: r => by simp only [cellsE, List.length_cons, qch r]; omega
theorem qcn : ∀ (l r : Env), cellsE (l ++ r) = cellsE l ++ cellsE r
 | [], r => rfl
 | a :: l, r => by simp only [List.cons_append, cellsE, qcn l r]
theorem qnx (d : Nat) (σ : Store) : ∀ (l : Env), ∃ ts, frzs (frz (d + 1) σ) (cellsE l) = some ts ∧ chunk 2 l.length ts = qqi l
 | [] => ⟨[], rfl, rfl⟩
 | p :: r => by
  obtain ⟨ts, h1, h2⟩ := qnx d σ r
  refine ⟨.str p.1 :: I p.2 :: ts, ?_, ?_⟩
  ·have t1 : ∀ z : T, frz (d + 1) σ (.t z) = some z := fun z => rfl
   simp only [cellsE, frzs, t1, h1]
  ·simp only [List.length_cons, chunk, List.take_succ_cons, List.take_zero, List.drop_succ_cons, List.drop_zero, h2]
   rfl
theorem qhi (n : Nat) {σ : Store} {d g w : Nat} {e : Env} (hd : σ[d]? = some (.cells (cellsE e) g w)) (hw : w ≤ g) : frz (n + 2) σ (.sl d g 0 e.length 2) = some (envT e) := by
 obtain ⟨ts, z1, z2⟩ := qnx n σ e
 have hcl := qch e
 have := qkg (d := n + 1) (k := 2) (off := 0) (len := e.length) hd hw (Nat.le_refl _) (by omega) (by omega) (ts := ts) (by rw [List.drop_zero, List.take_of_length_le (by omega)]; exact z1)
 rw [z2] at this
 exact this
theorem qmu : ∀ (l : Env), qag 2 (qqi l) = some (cellsE l)
 | [] => rfl
 | p :: r => by
  have := qmu r
  simp only [qqi, List.map_cons, qag, rowE, cellsE] at this ⊢
  rw [this]
  rfl
def lowN (nm : List Nat) (e : Env) : Env := e.filter fun p => qdn p.1 nm
def hiN (nm : List Nat) (e : Env) : Env := e.filter fun p => !(qdn p.1 nm || decide (p.1 = nm))
def outN (e : Env) (nm : List Nat) (n : Int) : Env := lowN nm e ++ [(nm, n)] ++ hiN nm e
def setN (e : Env) (nm : List Nat) (n : Int) : Env := if qgf (outN e nm n) then outN e nm n else e
theorem qka {VN : List Nat → Bool} {e : Env} (h : qgw VN e = true) (q : List Nat × Int → Bool) : qgw VN (e.filter q) = true := by
 refine List.all_eq_true.2 fun p hp => List.all_eq_true.1 h p (List.mem_filter.1 hp).1
theorem qmj {VN : List Nat → Bool} {e : Env} (h : qgw VN e = true) {nm : List Nat} (hn : VN nm = true) (n : Int) : qgw VN (outN e nm n) = true := by
 have h1 := qka h fun p => qdn p.1 nm
 have h2 := qka h fun p => !(qdn p.1 nm || decide (p.1 = nm))
 unfold qgw at h1 h2 ⊢
 simp only [outN, lowN, hiN, List.all_append, List.all_cons, List.all_nil, h1, h2, hn, Bool.and_self]
theorem app_env {e : Env} (hl : e.length ≤ 1000) (a : V.Obj) : ∃ g, qap S.ty [a, .cells [] 0 0] [86, 86] (.sl 1 0 0 0 2) (.t (envT e)) = some (.sl 1 g 0 e.length 2, [a, .cells (cellsE e) g 0]) := by
 have hs : qaf [a, .cells [] 0 0] 2 (.t (envT e)) = some (e.length, cellsE e) := by simp [qaf, envT, qmu]
 cases e with
 | nil => exact ⟨0, by simp [qap, hs]; rfl⟩
 | cons p r =>
  have hb : (r.length + 1) * 24 ≤ 140737488355328 := by simp at hl; omega
  exact ⟨1, by simp [qap, hs, hb]⟩
theorem qzv {VN : List Nat → Bool} (hV : NmOk VN) {e : Env} (ha : qgw VN e = true) (hl : e.length ≤ 1000) {nm : List Nat} (hn : VN nm = true) (n : Int) :
  ∃ v σ', LV S 87 [.t (envT e), .t (.str nm), .t (I n)] [] = some (v, σ') ∧ frz 40 σ' v = some (.tup [envT (setN e nm n), B (qgf (outN e nm n))]) := by
 refine qaq (A := A87) rfl Tryz.func87 rfl ?_
 refine wR rfl (by simp; rfl) ?_
 refine wR rfl (by simp [qaa, qab, chunk, qao]; rfl) ?_
 refine wR rfl (by simp; rfl) ?_
 refine wB rfl ?_
 try simp only [tq]
 refine qat (I := fun m st τ => ∃ k acc g w, m = e.length - k ∧ k ≤ e.length ∧ acc.length ≤ k ∧ acc ++ lowN nm (e.drop k) = lowN nm e ∧ w ≤ g ∧ st.vars = [(0, .t (envT e)), (1, .t (.str nm)), (2, .t (I n)), (6, .t .nils), (7, .t (B false)), (8, .sl 0 g 0 acc.length 2), (9, .t (I k))] ∧ τ = [.cells (cellsE acc) g w]) ?_ e.length _ _ ⟨0, [], 0, 0, rfl, Nat.zero_le _, by simp, rfl, by omega, by simp [envT], rfl⟩
 rintro m ⟨vars, scr⟩ τ ⟨k, acc, g, w, rfl, hk, hak, he, hw, hvs, rfl⟩
 simp only at hvs
 subst hvs
 have hcl := qch acc
 have hbn : (acc.length + 1) * 24 ≤ 140737488355328 := by omega
 refine wR rfl (by simp [envT]; rfl) ?_
 by_cases c1 : k < e.length
 ·refine wT rfl (by simp [c1]) ?_
  refine wK ?_
  refine wB rfl ?_
  obtain ⟨p, hp⟩ := get_of_lt c1
  rw [qak hp] at he
  simp only [lowN, List.filter_cons] at he
  refine wR rfl (by simp [envT, hp, rowE]; rfl) ?_
  cases c2 : qdn p.1 nm with
  | true =>
   rw [c2] at he
   simp only [if_true] at he
   refine wT rfl (by simp [c2]) ?_
   refine wR rfl (by simp [envT, hp, rowE, qaa, qab, chunk, qao, qac, qap, qaf, qag, hcl, hbn, hw]; rfl) ?_
   refine wR rfl (by simp [IntWalk.i64_in ((k : Int) + 1) (by omega)]; rfl) ?_
   try simp only [tq]
   refine ⟨e.length - (k + 1), by omega, k + 1, acc ++ [p], g + 1, w, rfl, c1, by simp; omega, by simpa [lowN] using he, by omega, by simp [envT], ?_⟩
   rw [qcn]; rfl
  | false =>
   rw [c2] at he
   simp only [Bool.false_eq_true, if_false] at he
   refine wF rfl (by simp [c2]) ?_
   refine wK ?_
   refine wR rfl (by simp [IntWalk.i64_in ((k : Int) + 1) (by omega)]; rfl) ?_
   try simp only [tq]
   exact ⟨e.length - (k + 1), by omega, k + 1, acc, g, w, rfl, c1, by omega, he, hw, by simp [envT], rfl⟩
 ·refine wF rfl (by simp [c1]) ?_
  repeat apply qaw
  refine qal ?_
  try simp only [tq, if_true]
  have : k = e.length := by omega
  subst this
  rw [List.drop_length] at he
  simp only [lowN, List.filter_nil, List.append_nil] at he
  refine wR rfl (by simp [qbz, qar, qao, qac, qab, qaa, chunk, qcc, allT, qap, qaf, qag, hcl, hbn, hw]; rfl) ?_
  refine wR rfl (by simp; rfl) ?_
  refine wB rfl ?_
  try simp only [tq]
  have hst : [V.Obj.cells (cellsE acc ++ [V.t (.str nm), V.t (I n)]) (g + 1) w] = [V.Obj.cells (cellsE (acc ++ [(nm, n)])) (g + 1) w] := by rw [qcn]; rfl
  refine qat (I := fun m st τ => ∃ k acc2 g w, m = e.length - k ∧ k ≤ e.length ∧ acc2.length ≤ e.length + 1 + k ∧ acc2 ++ hiN nm (e.drop k) = outN e nm n ∧ w ≤ g ∧ st.vars = [(0, .t (envT e)), (1, .t (.str nm)), (2, .t (I n)), (6, .t .nils), (7, .t (B false)), (8, .sl 0 g 0 acc2.length 2), (10, .t (I k))] ∧ τ = [.cells (cellsE acc2) g w]) ?_ e.length _ _ ⟨0, acc ++ [(nm, n)], g + 1, w, rfl, Nat.zero_le _, by simp; omega, by rw [he]; rfl, by omega, by simp [envT], hst⟩
  clear he hst hcl hbn hw hak
  rintro m ⟨vars, scr⟩ τ ⟨k, acc, g, w, rfl, hk, hak, he, hw, hvs, rfl⟩
  simp only at hvs
  subst hvs
  have hcl := qch acc
  have hbn : (acc.length + 1) * 24 ≤ 140737488355328 := by omega
  refine wR rfl (by simp [envT]; rfl) ?_
  by_cases c1 : k < e.length
  ·refine wT rfl (by simp [c1]) ?_
   refine wK ?_
   refine wB rfl ?_
   obtain ⟨p, hp⟩ := get_of_lt c1
   rw [qak hp] at he
   simp only [hiN, List.filter_cons] at he
   refine wR rfl (by simp [envT, hp, rowE, eqL_eq]; rfl) ?_
   cases c2 : !(qdn p.1 nm || decide (p.1 = nm)) with
   | true =>
    rw [c2] at he
    simp only [if_true] at he
    have c2' : qdn p.1 nm = false ∧ ¬ p.1 = nm := by simpa using c2
    refine wT rfl (by simp [c2'.1, c2'.2]) ?_
    refine wR rfl (by simp [envT, hp, rowE, qaa, qab, chunk, qao, qac, qap, qaf, qag, hcl, hbn, hw]; rfl) ?_
    refine wR rfl (by simp [IntWalk.i64_in ((k : Int) + 1) (by omega)]; rfl) ?_
    try simp only [tq]
    refine ⟨e.length - (k + 1), by omega, k + 1, acc ++ [p], g + 1, w, rfl, c1, by simp; omega, by simpa [hiN] using he, by omega, by simp [envT], ?_⟩
    rw [qcn]; rfl
   | false =>
    rw [c2] at he
    simp only [Bool.false_eq_true, if_false] at he
    repeat apply qaw
    refine qwr (t := false) (by simpa using c2) ?_
    simp only [if_true, if_false, Bool.false_eq_true]
    refine wK ?_
    refine wR rfl (by simp [IntWalk.i64_in ((k : Int) + 1) (by omega)]; rfl) ?_
    try simp only [tq]
    exact ⟨e.length - (k + 1), by omega, k + 1, acc, g, w, rfl, c1, by omega, he, hw, by simp [envT], rfl⟩
  ·refine wF rfl (by simp [c1]) ?_
   repeat apply qaw
   refine qal ?_
   try simp only [tq, if_true]
   have : k = e.length := by omega
   subst this
   rw [List.drop_length] at he
   simp only [hiN, List.filter_nil, List.append_nil] at he
   subst he
   have hok := envOk_ld hV (qmj ha hn n) (by omega) (σ := [.cells (cellsE (outN e nm n)) g w]) (d := 0) (g := g) rfl (qhi 38 rfl hw)
   cases hE : qgf (outN e nm n) with
   | true =>
    rw [hE] at hok
    refine wR rfl (by simp [hok]; rfl) ?_
    refine wF rfl (by simp) ?_
    refine wK ?_
    refine wR rfl (by simp; rfl) ?_
    try simp only [tq]
    refine wX ?_
    try simp only [tq]
    refine ⟨trivial, .tup [.sl 0 g 0 (outN e nm n).length 2, .t (B true)], (by simp [Tryz.f87]), ?_⟩
    have := qhi (σ := [.cells (cellsE (outN e nm n)) g w]) (d := 0) (g := g) (w := w) (e := outN e nm n) 37 rfl hw
    simp only [setN, hE, if_true]
    rw [frz, frzs, this]
    rfl
   | false =>
    rw [hE] at hok
    refine wR rfl (by simp [hok]; rfl) ?_
    refine wT rfl (by simp) ?_
    obtain ⟨g2, happ⟩ := app_env (e := e) hl (.cells (cellsE (outN e nm n)) g w)
    simp only [envT] at happ
    refine wR rfl (by simp [qaa, qab, chunk, qao, happ]; rfl) ?_
    try simp only [tq]
    refine wX ?_
    try simp only [tq]
    refine ⟨trivial, .tup [.sl 1 g2 0 e.length 2, .t (B false)], (by simp [Tryz.f87]), ?_⟩
    have := qhi (σ := [.cells (cellsE (outN e nm n)) g w, .cells (cellsE e) g2 0]) (d := 1) (g := g2) (w := 0) (e := e) 37 rfl (Nat.zero_le _)
    simp only [setN, hE, Bool.false_eq_true, if_false]
    rw [frz, frzs, this]
    rfl
theorem qsr {VN : List Nat → Bool} (hV : NmOk VN) {e : Env} (ha : qgw VN e = true) (hl : e.length ≤ 1000) {nm : List Nat} (hn : VN nm = true) (n : Int) (σ : Store) :
  LD S 87 [.t (envT e), .t (.str nm), .t (I n)] σ = some (.t (.tup [envT (setN e nm n), B (qgf (outN e nm n))]), σ) := by
 obtain ⟨v, σ', h1, h2⟩ := qzv hV ha hl hn n
 exact qaj (A := A87) (args := [.t (envT e), .t (.str nm), .t (I n)]) rfl rfl rfl h1 h2 σ
end X
namespace X
attribute [-simp] lenV idxV getElem?_pos
/-! ### What a text is bound as -/
def bnL : List Nat → Int → Bool → Int × Bool
 | [], n, ok => (n, ok)
 | c :: r, n, ok => bnL r (10 * n + c - 48) (ok && (decide (48 ≤ c) && decide (c ≤ 57)))
def qee (s : List Nat) : Int := if (1 ≤ s.length ∧ s.length ≤ 2) ∧ (bnL s 0 true).2 = true then (bnL s 0 true).1 else if 99 < s.length then 99 else s.length
def Bs (s : List Nat) : Prop := ∀ c ∈ s, c < 256
theorem qzl (s : List Nat) (hb : Bs s) (hl : s.length ≤ 1048576) : LV S 135 [.t (.str s)] [] = some (.t (I (qee s)), []) := by
 have hin := qqo (s.length : Int) 1 2
 refine qas (A := A135) rfl Tryz.func135 rfl ?_
 by_cases c1 : 1 ≤ s.length ∧ s.length ≤ 2
 ·have ei : inF (s.length : Int) 1 2 = true := by simp [inF]; omega
  rw [ei] at hin
  refine wR rfl (by simp; rfl) ?_
  refine wR rfl (by simp [hin]; rfl) ?_
  refine wT rfl (by simp) ?_
  refine wR rfl (by simp; rfl) ?_
  refine wR rfl (by simp; rfl) ?_
  refine wR rfl (by simp; rfl) ?_
  refine wB rfl ?_
  try simp only [tq]
  refine qat (I := fun m st τ => ∃ (k : Nat) (n : Int) (ok : Bool), m = s.length - k ∧ k ≤ s.length ∧ ((k = 0 ∧ n = 0) ∨ (k = 1 ∧ -48 ≤ n ∧ n ≤ 207) ∨ (k = 2 ∧ -600 ≤ n ∧ n ≤ 3000)) ∧ bnL (s.drop k) n ok = bnL s 0 true ∧ st.vars = [(0, .t (.str s)), (2, .t (I 0)), (3, .t (I n)), (4, .t (B ok)), (5, .t (I k))] ∧ τ = []) ?_ s.length _ _ ⟨0, 0, true, rfl, Nat.zero_le _, .inl ⟨rfl, rfl⟩, rfl, by simp, rfl⟩
  rintro m ⟨vars, scr⟩ τ ⟨k, n, ok, rfl, hk, hn, he, hv, rfl⟩
  simp only at hv
  subst hv
  refine wR rfl (by simp; rfl) ?_
  by_cases c2 : k < s.length
  ·refine wT rfl (by simp [c2]) ?_
   refine wK ?_
   refine wB rfl ?_
   obtain ⟨c, hc⟩ := get_of_lt c2
   have hcb : c < 256 := hb c (List.mem_of_getElem? hc)
   rw [qak hc] at he
   simp only [bnL] at he
   have hci : (k : Int) < s.length := by omega
   have w1 := IntWalk.i64_in (10 * n) (by omega)
   have w2 := IntWalk.i64_in (10 * n + c) (by omega)
   have w3 := IntWalk.i64_in (10 * n + c - 48) (by omega)
   have w4 := IntWalk.i64_in (c : Int) (by omega)
   cases ok with
   | false =>
    refine wR rfl (by simp [hc, hci]; rfl) ?_
    refine wR rfl (by simp [hc, hci, w1, w2, w3, w4]; rfl) ?_
    refine wR rfl (by simp [IntWalk.i64_in ((k : Int) + 1) (by omega)]; rfl) ?_
    try simp only [tq]
    exact ⟨s.length - (k + 1), by omega, k + 1, 10 * n + c - 48, false, rfl, c2, by omega, he, by simp [w1, w2, w3, w4], trivial⟩
   | true =>
    by_cases d1 : 48 ≤ c
    ·have d1' : (48 : Int) ≤ c := by omega
     by_cases d2 : c ≤ 57
     ·have d2' : (c : Int) ≤ 57 := by omega
      refine wR rfl (by simp [hc, hci, d1', d2']; rfl) ?_
      refine wR rfl (by simp [hc, hci, w1, w2, w3, w4]; rfl) ?_
      refine wR rfl (by simp [IntWalk.i64_in ((k : Int) + 1) (by omega)]; rfl) ?_
      try simp only [tq]
      exact ⟨s.length - (k + 1), by omega, k + 1, 10 * n + c - 48, true, rfl, c2, by omega, by simpa [d1, d2] using he, by simp [w1, w2, w3, w4], trivial⟩
     ·have d2' : ¬ (c : Int) ≤ 57 := by omega
      refine wR rfl (by simp [hc, hci, d1', d2']; rfl) ?_
      refine wR rfl (by simp [hc, hci, w1, w2, w3, w4]; rfl) ?_
      refine wR rfl (by simp [IntWalk.i64_in ((k : Int) + 1) (by omega)]; rfl) ?_
      try simp only [tq]
      exact ⟨s.length - (k + 1), by omega, k + 1, 10 * n + c - 48, false, rfl, c2, by omega, by simpa [d1, d2] using he, by simp [w1, w2, w3, w4], trivial⟩
    ·have d1' : ¬ (48 : Int) ≤ c := by omega
     refine wR rfl (by simp [hc, hci, d1']; rfl) ?_
     refine wR rfl (by simp [hc, hci, w1, w2, w3, w4]; rfl) ?_
     refine wR rfl (by simp [IntWalk.i64_in ((k : Int) + 1) (by omega)]; rfl) ?_
     try simp only [tq]
     exact ⟨s.length - (k + 1), by omega, k + 1, 10 * n + c - 48, false, rfl, c2, by omega, by simpa [d1] using he, by simp [w1, w2, w3, w4], trivial⟩
  ·refine wF rfl (by simp [c2]) ?_
   repeat apply qaw
   refine qal ?_
   try simp only [tq, if_true]
   have : k = s.length := by omega
   subst this
   rw [List.drop_length] at he
   simp only [bnL] at he
   refine wR rfl (by simp; rfl) ?_
   cases ok with
   | true =>
    have hbn : qee s = n := by simp only [qee, c1, ← he, and_self, if_true]
    refine wT rfl (by simp) ?_
    refine wR rfl (by simp; rfl) ?_
    refine wX ?_
    try simp only [tq]
    simp [Tryz.f135, hbn]
   | false =>
    have hbn : qee s = if 99 < s.length then 99 else (s.length : Int) := by simp [qee, ← he]
    have hns : ¬ 99 < s.length := by omega
    rw [if_neg hns] at hbn
    have hns' : ¬ (99 : Int) < s.length := by omega
    refine wF rfl (by simp) ?_
    refine wK ?_
    refine wR rfl (by simp [hns']; rfl) ?_
    refine wF rfl (by simp) ?_
    refine wK ?_
    refine wR rfl (by simp; rfl) ?_
    refine wX ?_
    try simp only [tq]
    simp [Tryz.f135, hbn]
 ·have ei : inF (s.length : Int) 1 2 = false := by
   simp only [inF, Bool.and_eq_false_iff, decide_eq_false_iff_not]
   omega
  rw [ei] at hin
  have hbn : qee s = if 99 < s.length then 99 else (s.length : Int) := by simp only [qee, c1, false_and, if_false]
  refine wR rfl (by simp; rfl) ?_
  refine wR rfl (by simp [hin]; rfl) ?_
  refine wF rfl (by simp) ?_
  refine wK ?_
  by_cases c3 : 99 < s.length
  ·have c3' : (99 : Int) < s.length := by omega
   rw [if_pos c3] at hbn
   refine wR rfl (by simp [c3']; rfl) ?_
   refine wT rfl (by simp) ?_
   refine wR rfl (by simp; rfl) ?_
   refine wX ?_
   try simp only [tq]
   simp [Tryz.f135, hbn]
  ·have c3' : ¬ (99 : Int) < s.length := by omega
   rw [if_neg c3] at hbn
   refine wR rfl (by simp [c3']; rfl) ?_
   refine wF rfl (by simp) ?_
   refine wK ?_
   refine wR rfl (by simp; rfl) ?_
   refine wX ?_
   try simp only [tq]
   simp [Tryz.f135, hbn]
theorem qye (s : List Nat) (hb : Bs s) (hl : s.length ≤ 1048576) (σ : Store) : LD S 135 [.t (.str s)] σ = some (.t (I (qee s)), σ) :=
 qaj (A := A135) (v := .t (I (qee s))) (σ0 := []) rfl rfl rfl (qzl s hb hl) rfl σ
def bsB (s : List Nat) : Bool := s.all fun c => decide (c < 256)
theorem q0v {s : List Nat} (h : bsB s = true) : Bs s := fun c hc => by simpa using List.all_eq_true.1 h c hc
/-- what is known behind a call -/
def qkt (VN : List Nat → Bool) (e : Env) (bs t : List Nat) : Option Env :=
 if qgw VN e = true ∧ e.length ≤ 1000 ∧ t.length ≤ 1000000 ∧ bsB t = true then
  if bs = [] then some e else if VN bs = true then some (setN e bs (qee t)) else none
 else none
theorem qpl (e : Env) (nm : List Nat) (n : Int) (h : e.length ≤ 1000) : (setN e nm n).length ≤ 1000 := by
 unfold setN
 split
 ·rename_i h1
  simp only [qgf, Bool.and_eq_true, decide_eq_true_eq] at h1
  omega
 ·exact h
theorem bind_ld {VN : List Nat → Bool} (hV : NmOk VN) {e e' : Env} {bs t : List Nat} (h : qkt VN e bs t = some e') : e'.length ≤ 1048576 ∧ ∀ σ, LD S 86 [.t (envT e), .t (.str bs), .t (.str t)] σ = some (.t (envT e'), σ) := by
 unfold qkt at h
 split at h
 rotate_left
 ·cases h
 rename_i hb
 obtain ⟨b1, b2, b3, b4⟩ := hb
 suffices hh : e'.length ≤ 1048576 ∧ ∃ σ', LV S 86 [.t (envT e), .t (.str bs), .t (.str t)] [] = some (.t (envT e'), σ') by
  obtain ⟨h0, σ', hh⟩ := hh
  exact ⟨h0, fun σ => qaj (A := A86) (args := [.t (envT e), .t (.str bs), .t (.str t)]) (v := .t (envT e')) rfl rfl rfl hh rfl σ⟩
 split at h
 ·rename_i hbs
  subst hbs
  cases h
  refine ⟨by omega, ?_⟩
  refine qbm (A := A86) rfl Tryz.func86 rfl ?_
  refine wR rfl (by simp; rfl) ?_
  refine wR rfl (by simp [eqL_eq]; rfl) ?_
  refine wT rfl (by simp) ?_
  refine wR rfl (by simp; rfl) ?_
  refine wX ?_
  try simp only [tq]
  simp [Tryz.f86]
 ·rename_i hbs
  split at h
  rotate_left
  ·cases h
  rename_i hn
  cases h
  have h0 := qpl e bs (qee t) b2
  have hbn := qye t (q0v b4) (by omega)
  have hes := qsr hV b1 b2 hn (qee t)
  refine ⟨by omega, ?_⟩
  refine qbm (A := A86) rfl Tryz.func86 rfl ?_
  refine wR rfl (by simp; rfl) ?_
  refine wR rfl (by simp [eqL_eq, hbs]; rfl) ?_
  refine wF rfl (by simp) ?_
  refine wK ?_
  refine wR rfl (by simp [hbn, hes]; rfl) ?_
  refine wR rfl (by simp; rfl) ?_
  refine wX ?_
  try simp only [tq]
  simp [Tryz.f86]
/-! ### What is known where a rule begins -/
def strN : T → Option (List Nat)
 | .agg [.str s] => some s
 | _ => none
def strsG : List T → Option (List (List Nat))
 | [] => some []
 | x :: r => match strN x, strsG r with
  | some n, some l => some (n :: l)
  | _, _ => none
def qmh : T → Option (List (List Nat))
 | .nils => some []
 | .list rows => strsG rows
 | _ => none
def Strs (x : T) (l : List (List Nat)) : Prop := (x = .nils ∧ l = []) ∨ x = .list (l.map fun s => .agg [.str s])
theorem qwo : ∀ {rows : List T} {l : List (List Nat)}, strsG rows = some l → rows = l.map fun s => .agg [.str s]
 | [], l, h => by cases h; rfl
 | x :: r, l, h => by
  simp only [strsG] at h
  split at h
  ·rename_i n l' h1 h2
   cases h
   have := qwo h2
   subst this
   unfold strN at h1
   split at h1
   ·cases h1; rfl
   ·cases h1
  ·cases h
theorem qkv {x : T} {l : List (List Nat)} (h : qmh x = some l) : Strs x l := by
 unfold qmh at h
 split at h
 ·cases h; exact .inl ⟨rfl, rfl⟩
 ·exact .inr (by rw [qwo h])
 ·cases h
theorem Strs.len {x : T} {l : List (List Nat)} (h : Strs x l) (σ : Store) (e : TypeId) : lenV σ (.slice e) (.t x) = some (l.length : Int) := by
 rcases h with ⟨rfl, rfl⟩ | rfl <;> simp
theorem Strs.idx {x : T} {l : List (List Nat)} (h : Strs x l) {i : Nat} {s : List Nat} (hi : l[i]? = some s) : idxV 1 (.t x) (i : Int) = some (.t (.snap [.str s])) := by
 rcases h with ⟨rfl, rfl⟩ | rfl
 ·simp at hi
 ·simp [hi]
def qjg (VN : List Nat → Bool) : List (List Nat) → List Nat → Env → Option Env
 | p :: ps, a :: as', e => if VN p = true ∧ qgw VN e = true ∧ e.length ≤ 1000 then qjg VN ps as' (setN e p a) else none
 | _, _, e => some e
def qpj (VN : List Nat → Bool) (ps : T) (al : List Nat) : Option Env := match qmh ps with
 | some l => if l.length ≤ 1000 ∧ al.length ≤ 1000 then qjg VN l al [] else none
 | none => none
attribute [-simp] qbx
theorem env0_ld {VN : List Nat → Bool} (hV : NmOk VN) {ps : T} {al : List Nat} {env : Env} (h : qpj VN ps al = some env) : env.length ≤ 1048576 ∧ ∀ σ v, Rd σ v al → LD S 51 [.t ps, v] σ = some (.t (envT env), σ) := by
 unfold qpj at h
 split at h
 rotate_left
 ·cases h
 rename_i l hl
 split at h
 rotate_left
 ·cases h
 rename_i hb
 have hs := qkv hl
 have key : ∀ (l : List (List Nat)) (al : List Nat) (e : Env), e.length ≤ 1000 → qjg VN l al e = some env → env.length ≤ 1000 := by
  intro l
  induction l with
  | nil => intro al e he h; cases al <;> (simp only [qjg] at h; cases h; exact he)
  | cons p ps ih =>
   intro al e he h
   cases al with
   | nil => simp only [qjg] at h; cases h; exact he
   | cons a as' =>
    simp only [qjg] at h
    split at h
    ·exact ih as' _ (qpl e p a he) h
    ·cases h
 refine ⟨by have := key l al [] (by simp) h; omega, fun σ v hv => ?_⟩
 suffices hh : ∃ w σ', LV S 51 [.t ps, v] σ = some (w, σ') ∧ w = .t (envT env) ∧ σ' = σ by
  obtain ⟨w, σ', h1, rfl, rfl⟩ := hh
  rw [qbt (A := A51) rfl rfl rfl]; exact h1
 refine qaq (A := A51) rfl Tryz.func51 rfl ?_
 refine wR rfl (by simp; rfl) ?_
 refine wR rfl (by simp [qaa, qab, chunk, qao, allT]; rfl) ?_
 refine wR rfl (by simp; rfl) ?_
 refine wB rfl ?_
 try simp only [tq]
 refine qat (I := fun m st τ => ∃ k e, m = l.length - k ∧ k ≤ l.length ∧ k ≤ al.length ∧ qjg VN (l.drop k) (al.drop k) e = some env ∧ st.vars = [(0, .t ps), (1, v), (4, .t .nils), (5, .t (envT e)), (6, .t (I k))] ∧ τ = σ) ?_ l.length _ _ ⟨0, [], rfl, Nat.zero_le _, Nat.zero_le _, h, by simp [envT, qqi], rfl⟩
 clear h key
 rintro m ⟨vars, scr⟩ τ ⟨k, e, rfl, hk, hk2, h, hvs, rfl⟩
 simp only at hvs
 subst hvs
 by_cases c1 : k < l.length
 ·have c1' : (k : Int) < l.length := by omega
  by_cases c2 : k < al.length
  ·have c2' : (k : Int) < al.length := by omega
   obtain ⟨p, hp⟩ := get_of_lt c1
   obtain ⟨a, hka⟩ := get_of_lt c2
   rw [qak hp, qak hka] at h
   simp only [qjg] at h
   split at h
   rotate_left
   ·cases h
   rename_i hc
   have hes := qsr hV hc.2.1 hc.2.2 hc.1 a τ
   simp only [envT] at hes
   refine wR rfl (by simp [hs.len, hv.len, c1', c2']; rfl) ?_
   refine wT rfl (by simp) ?_
   refine wK ?_
   refine wB rfl ?_
   obtain ⟨q, hq, hq2⟩ := hv.idx hka
   refine wR rfl (by simp [hs.idx hp, hq, hq2, hes, envT]; rfl) ?_
   refine wR rfl (by simp [IntWalk.i64_in ((k : Int) + 1) (by omega)]; rfl) ?_
   try simp only [tq]
   exact ⟨l.length - (k + 1), by omega, k + 1, setN e p a, rfl, c1, c2, h, by simp [envT], trivial⟩
  ·have c2' : ¬ (k : Int) < al.length := by omega
   have : k = al.length := by omega
   rw [this, List.drop_length] at h
   have h' : some e = some env := by
    cases hd : l.drop al.length with
    | nil => rw [hd] at h; exact h
    | cons x y => rw [hd] at h; exact h
   cases h'
   refine wR rfl (by simp [hs.len, hv.len, c1', c2']; rfl) ?_
   refine wF rfl (by simp) ?_
   repeat apply qaw
   refine qal ?_
   try simp only [tq, if_true]
   refine wR rfl (by simp; rfl) ?_
   try simp only [tq]
   refine wX ?_
   try simp only [tq]
   exact ⟨trivial, _, (by simp [Tryz.f51]), rfl, trivial⟩
 ·have c1' : ¬ (k : Int) < l.length := by omega
  have : k = l.length := by omega
  rw [this, List.drop_length] at h
  have h' : some e = some env := by
   cases hd : al.drop l.length with
   | nil => rw [hd] at h; exact h
   | cons x y => rw [hd] at h; exact h
  cases h'
  refine wR rfl (by simp [hs.len, hv.len, c1']; rfl) ?_
  refine wF rfl (by simp) ?_
  repeat apply qaw
  refine qal ?_
  try simp only [tq, if_true]
  refine wR rfl (by simp; rfl) ?_
  try simp only [tq]
  refine wX ?_
  try simp only [tq]
  exact ⟨trivial, _, (by simp [Tryz.f51]), rfl, trivial⟩
end X
