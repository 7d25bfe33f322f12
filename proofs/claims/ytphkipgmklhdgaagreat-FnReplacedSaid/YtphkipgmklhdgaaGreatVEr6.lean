/- A part of the proof. No statement of the claim is in it. -/
import Derived.Test.YtphkipgmklhdgaaGreatVEr5
open Go Go.V Go.Proofs
namespace X
set_option maxRecDepth 100000
set_option maxHeartbeats 4000000
set_option linter.unusedSimpArgs false
set_option linter.unusedVariables false
attribute [-simp] lenV idxV getElem?_pos
/-! ### What is known of the rest, by its type -/
structure Kn where
 plain : T → Env → Nat → Option (Option Nat)
 args : T → Env → Nat → Option (Option (List Nat))
 bind : Env → List Nat → List Nat → Option Env
 ruleAt : List Nat → Option Nat
 env0 : T → List Nat → Option Env
structure KnOk (K : Kn) (rules : T) (text : List Nat) : Prop where
 plain : ∀ x env pos r, K.plain x env pos = some r → ∃ n ok, (∀ σ, LD S 80 [.t x, .t (.str text), .t (.agg [I pos, envT env])] σ = some (.t (.tup [I n, B ok]), σ)) ∧ match r with
  | some p => ok = true ∧ n = (p : Int)
  | none => ok = false
 args : ∀ ax env pos r, K.args ax env pos = some r → ∃ y ok, (∀ σ, LD S 82 [.t ax, .t (envT env), .t (I pos)] σ = some (.t (.tup [y, B ok]), σ)) ∧ match r with
  | some l => ok = true ∧ y = .list (rows1 l)
  | none => ok = false
 bind : ∀ env bs t env', K.bind env bs t = some env' → env'.length ≤ 1048576 ∧ ∀ σ, LD S 83 [.t (envT env), .t (.str bs), .t (.str t)] σ = some (.t (envT env'), σ)
 ruleAt : ∀ nm i, K.ruleAt nm = some i → ∀ σ, LD S 50 [.t (.agg [rules]), .t (.str nm)] σ = some (.t (I (i : Nat)), σ)
 env0 : ∀ ps al env, K.env0 ps al = some env → env.length ≤ 1048576 ∧ ∀ σ v, Rd σ v al → LD S 69 [.t ps, v] σ = some (.t (envT env), σ)
/-! ### An alternative -/
def endsS (K : Kn) (text : List Nat) (bs : List Nat) (a : At) : List Nat → List At → Option (List At)
 | [], nx => some nx
 | e :: r, nx => if a.1 ≤ e ∧ e ≤ text.length ∧ nx.length ≤ 1000000000000 then match K.bind a.2 bs ((text.take e).drop a.1) with
   | some env => endsS K text bs a r (putS nx (e, env))
   | none => none
  else none
def callS (K : Kn) (text : List Nat) (nm : List Nat) (ax : T) (bs : List Nat) (a : At) (nx : List At) (s : Rs) : Option (Option (List At) × Rs) :=
 match K.args ax a.2 a.1 with
 | none => none
 | some none => some (some nx, s)
 | some (some al) => if al.length ≤ 1000 ∧ s.goals.length ≤ 1000 then match K.ruleAt nm with
  | none => none
  | some ru => match (goalS s ru al a.1).2 with
   | .negSucc _ => some (none, (goalS s ru al a.1).1)
   | .ofNat i => match (goalS s ru al a.1).1.goals[i]? with
    | none => none
    | some g => if g.ends.length ≤ 1000 then match endsS K text bs a g.ends nx with
     | none => none
     | some nx' => some (some nx', (goalS s ru al a.1).1)
     else none
  else none
def oneS (K : Kn) (text : List Nat) (x : T) (a : At) (nx : List At) (s : Rs) : Option (Option (List At) × Rs) :=
 match x with
 | .agg [.int .i64 (.ofNat kind), .str nm, ax, .str bs] =>
  if kind = 3 then callS K text nm ax bs a nx s
  else match K.plain x a.2 a.1 with
   | none => none
   | some none => some (some nx, s)
   | some (some p) => if nx.length ≤ 1000000000000 then some (some (putS nx (p, a.2)), s) else none
 | _ => none
def stepS (K : Kn) (text : List Nat) (x : T) : List At → List At → Rs → Option (Option (List At) × Rs)
 | [], nx, s => some (some nx, s)
 | a :: r, nx, s => match oneS K text x a nx s with
  | none => none
  | some (none, s') => some (none, s')
  | some (some nx', s') => stepS K text x r nx' s'
def altS (K : Kn) (text : List Nat) : List T → List At → Rs → Option (List At × Rs)
 | [], l, s => some (l, s)
 | x :: r, l, s => if 1000000000000 < l.length then none else match stepS K text x l [] s with
  | none => none
  | some (none, s') => some ([], s')
  | some (some nx, s') => altS K text r nx s'

/-- a slice of Syms -/
def Syms (xs : T) (syms : List T) : Prop := (xs = .nils ∧ syms = []) ∨ xs = .list syms
theorem Syms.len {xs : T} {syms : List T} (h : Syms xs syms) (σ : Store) (e : TypeId) : lenV σ (.slice e) (.t xs) = some (syms.length : Int) := by
 rcases h with ⟨rfl, rfl⟩ | rfl <;> simp
theorem Syms.idx {xs : T} {syms : List T} (h : Syms xs syms) {i : Nat} {a b c d : T} (hi : syms[i]? = some (.agg [a, b, c, d])) : idxV 4 (.t xs) (i : Int) = some (.t (.snap [a, b, c, d])) := by
 rcases h with ⟨rfl, rfl⟩ | rfl
 ·simp at hi
 ·simp [hi]
theorem OkE.put {l : List At} {x : At} (h : OkE l) (hx : x.2.length ≤ 1048576) : OkE (putS l x) := by
 intro a ha
 unfold putS at ha
 split at ha
 ·exact h a ha
 ·rcases List.mem_append.1 ha with ha | ha
  ·exact h a ha
  ·simp only [List.mem_singleton] at ha
   subst ha; exact hx
theorem AtS.keep {σ σ' : Store} {v : V} {d : Nat} {l : List At} (h : AtS σ v d l) (hk : σ'[d]? = σ[d]?) : AtS σ' v d l := by
 obtain ⟨g, w, h1, h2, h3⟩ := h
 exact ⟨g, w, h1, by rw [hk]; exact h2, h3⟩
theorem AtS.lt {σ : Store} {v : V} {d : Nat} {l : List At} (h : AtS σ v d l) : d < σ.length := by
 obtain ⟨g, w, h1, h2, h3⟩ := h
 exact lt_of_get h2
def boxA (a : At) : Go.V.Obj := .cells [.t (I a.1), .t (envT a.2)] 0 0

theorem buildAt (p : Int) (e : Env) : buildV S.ty 139 [(0, .t (I p)), (1, .t (envT e))] = some (.t (.agg [I p, envT e])) := by
 simp [buildV, fieldSizes, fillV, envT, setRange, mkAgg, allT]
theorem take2 {α : Type} {l : List α} {j : Nat} {x y : α} (h1 : l[j]? = some x) (h2 : l[j + 1]? = some y) : (l.drop j).take 2 = [x, y] := by
 rw [drop_get h1, drop_get h2]
 rfl
theorem alt_ld {K : Kn} {rules : T} {text : List Nat} (hK : KnOk K rules text) {r gl : Nat} {xs : T} {syms : List T} (hxs : Syms xs syms) (hsy : syms.length ≤ 1048576) {σ : Store} {vs : List V3} {s s' : Rs} (R : Rep rules text r gl σ vs s) {v : V} {d : Nat} {l l' : List At} (hv : AtS σ v d l) (hd : d ≠ r ∧ d ≠ gl) (hE : OkE l) (h : altS K text syms l s = some (l', s')) :
  ∃ v' d' σ' vs', LD S 68 [.ptr r 0 0 6, .t xs, v] σ = some (v', σ') ∧ AtS σ' v' d' l' ∧ Rep rules text r gl σ' vs' s' ∧ Fr [r, gl] σ σ' ∧ (d' ≠ r ∧ d' ≠ gl) ∧ OkE l' := by
 suffices hh : ∃ v' σ', LV S 68 [.ptr r 0 0 6, .t xs, v] σ = some (v', σ') ∧ ∃ d' vs', AtS σ' v' d' l' ∧ Rep rules text r gl σ' vs' s' ∧ Fr [r, gl] σ σ' ∧ (d' ≠ r ∧ d' ≠ gl) ∧ OkE l' by
  obtain ⟨v', σ', h1, d', vs', h2⟩ := hh
  exact ⟨v', d', σ', vs', by rw [LD_inl (A := A68) rfl rfl rfl]; exact h1, h2⟩
 refine LV_bodyX (A := A68) rfl Tryz.func68 rfl ?_
 repeat apply W_seq
 refine W_region (by simp; first | exact ⟨rfl, rfl⟩ | exact rfl) ?_
 try simp only [thenQ, blockQ, Ann.kill, List.find?_nil]
 repeat apply W_seq
 refine W_region (by simp; first | exact ⟨rfl, rfl⟩ | exact rfl) ?_
 try simp only [thenQ, blockQ, Ann.kill, List.find?_nil]
 repeat apply W_seq
 refine W_block ?_
 refine W_loop (I := fun m st τ => ∃ k lk sk vk dk wk, m = syms.length - k ∧ k ≤ syms.length ∧ altS K text (syms.drop k) lk sk = some (l', s') ∧ st.vars = [(0, .ptr r 0 0 6), (1, .t xs), (2, wk), (6, .t .nils), (7, .t (I k))] ∧ AtS τ wk dk lk ∧ (dk ≠ r ∧ dk ≠ gl) ∧ OkE lk ∧ Rep rules text r gl τ vk sk ∧ Fr [r, gl] σ τ) ?_ syms.length _ _ ⟨0, l, s, vs, d, v, rfl, Nat.zero_le _, h, by simp, hv, hd, hE, R, Fr.refl _ _⟩
 clear h R hv hd hE
 rintro m ⟨vars, scr⟩ τ ⟨k, lk, sk, vk, dk, wk, rfl, hk, h, hvs, hAt, hd, hE, R, hF⟩
 simp only at hvs
 subst hvs
 repeat apply W_seq
 refine W_region (by simp [hxs.len]; first | exact ⟨rfl, rfl⟩ | exact rfl) ?_
 try simp only [thenQ, blockQ, Ann.kill, List.find?_nil]
 by_cases c1 : k < syms.length
 ·repeat apply W_seq
  refine W_cond (t := true) (by simp [c1]) ?_
  simp only [if_true, if_false, Bool.false_eq_true]
  refine W_skip ?_
  try simp only [thenQ, blockQ, Ann.kill, List.find?_nil]
  repeat apply W_seq
  refine W_block ?_
  obtain ⟨x, hx⟩ := get_of_lt c1
  rw [drop_get hx] at h
  unfold altS at h
  split at h
  ·cases h
  rename_i hbig
  have hgl := R.lt
  have ldk := hAt.lt
  obtain ⟨gk, wgk, rfl, hk2, hk3⟩ := hAt
  repeat apply W_seq
  refine W_region (by simp [sliceCells, repZero, chunk, fillV]; first | exact ⟨rfl, rfl⟩ | exact rfl) ?_
  try simp only [thenQ, blockQ, Ann.kill, List.find?_nil]
  repeat apply W_seq
  refine W_region (by simp; first | exact ⟨rfl, rfl⟩ | exact rfl) ?_
  try simp only [thenQ, blockQ, Ann.kill, List.find?_nil]
  repeat apply W_seq
  refine W_block ?_
  -- over the places
  obtain ⟨res, hres⟩ : ∃ res, stepS K text x lk [] sk = some res := by
   cases hq : stepS K text x lk [] sk with
   | none => rw [hq] at h; cases h
   | some res => exact ⟨res, rfl⟩
  rw [hres] at h
  refine W_loop (I := fun m st τ2 => ∃ i nx s2 v2 w2, m = lk.length - i ∧ i ≤ lk.length ∧ stepS K text x (lk.drop i) nx s2 = some res ∧ st.vars = [(0, .ptr r 0 0 6), (1, .t xs), (2, .sl dk gk 0 lk.length 2), (6, .t .nils), (7, .t (I k)), (8, w2), (9, .t (I i))] ∧ AtS τ2 w2 τ.length nx ∧ τ2[dk]? = some (.cells (cellsA lk) gk wgk) ∧ OkE nx ∧ Rep rules text r gl τ2 v2 s2 ∧ Fr [r, gl] τ τ2 ∧ ∀ j ∈ locsP v2, j < τ.length) ?_ lk.length _ _ ⟨0, [], sk, vk, .sl τ.length 0 0 0 2, rfl, Nat.zero_le _, hres, by simp, ⟨0, 0, rfl, by rw [getA]; rfl, Nat.le_refl _⟩, by rw [List.getElem?_append_left ldk]; exact hk2, (fun a ha => by cases ha), R.fr (fun i hi => List.getElem?_append_left hi), Fr.app _ _ _, R.rd.locs⟩
  clear hres
  rintro m ⟨vars, scr⟩ τ2 ⟨i, nx, s2, v2, w2, rfl, hi, hst, hvs, hN, hk2', hEn, R2, hF2, hL2⟩
  simp only at hvs
  subst hvs
  repeat apply W_seq
  refine W_region (by simp; first | exact ⟨rfl, rfl⟩ | exact rfl) ?_
  try simp only [thenQ, blockQ, Ann.kill, List.find?_nil]
  by_cases c2 : i < lk.length
  ·repeat apply W_seq
   refine W_cond (t := true) (by simp [c2]) ?_
   simp only [if_true, if_false, Bool.false_eq_true]
   refine W_skip ?_
   try simp only [thenQ, blockQ, Ann.kill, List.find?_nil]
   repeat apply W_seq
   refine W_block ?_
   obtain ⟨a, ha⟩ := get_of_lt c2
   obtain ⟨e1, e2⟩ := cellsA_get ha
   have hcl := cellsA_len lk
   have hsz : i * 2 + 2 ≤ lk.length * 2 := by omega
   have hi1 : (i : Int) < lk.length := by omega
   have hEa := hE a (List.mem_of_getElem? ha)
   rw [drop_get ha] at hst
   simp only [stepS] at hst
   -- the sym
   obtain ⟨o, ho⟩ : ∃ o, oneS K text x a nx s2 = some o := by
    cases hq : oneS K text x a nx s2 with
    | none => rw [hq] at hst; cases hst
    | some o => exact ⟨o, rfl⟩
   rw [ho] at hst
   unfold oneS at ho
   split at ho
   rotate_left
   ·cases ho
   rename_i kind nm ax bs
   have hix := hxs.idx hx
   have l2 := R2.lt
   have lN := hN.lt
   have ltk := hF2.1
   have hk2a := lt_of_get hk2'
   have h2c := take2 e1 e2
   repeat apply W_seq
   refine W_region (by simp [hk2', hcl, hsz, hi1, hk3, getA, setA, fillV, h2c, allT, setRange]; first | exact ⟨rfl, rfl⟩ | exact rfl) ?_
   try simp only [thenQ, blockQ, Ann.kill, List.find?_nil]
   -- the copy of the place
   have Rb := R2.fr (σ' := τ2 ++ [boxA a]) (fun j hj => List.getElem?_append_left hj)
   have hNb : AtS (τ2 ++ [boxA a]) w2 τ.length nx := hN.keep (List.getElem?_append_left lN)
   have hFb : Fr [r, gl] τ (τ2 ++ [boxA a]) := hF2.trans (Fr.app [r, gl] _ _) (fun j hj => .inl hj)
   have hkb : (τ2 ++ [boxA a])[dk]? = some (.cells (cellsA lk) gk wgk) := by rw [List.getElem?_append_left hk2a]; exact hk2'
   have hbb : (τ2 ++ [boxA a])[τ2.length]? = some (boxA a) := by rw [getA]; rfl
   show W _ _ _ _ _ (τ2 ++ [boxA a])
   revert Rb hNb hFb hkb hbb
   generalize (τ2 ++ [boxA a]) = τ3
   intro Rb hNb hFb hkb hbb
   obtain ⟨gg, gw, hgw, hr, hg⟩ := Rb.run
   simp only [rnObj] at hr
   simp only [boxA] at hbb
   have hnx : ∀ j : Nat, lk.length - (j + 1) < lk.length - j ∨ ¬ j < lk.length := by omega
   have hw1 := IntWalk.i64_in ((i : Int) + 1) (by omega)
   repeat apply W_seq
   refine W_region (by simp [hix]; first | exact ⟨rfl, rfl⟩ | exact rfl) ?_
   try simp only [thenQ, blockQ, Ann.kill, List.find?_nil]
   split at ho
   ·rename_i hkind
    repeat apply W_seq
    refine W_cond (t := false) (by simp [show (kind : Int) = 3 by omega]) ?_
    simp only [if_true, if_false, Bool.false_eq_true]
    refine W_skip ?_
    try simp only [thenQ, blockQ, Ann.kill, List.find?_nil]
    unfold callS at ho
    split at ho
    ·cases ho
    ·rename_i hag
     cases ho
     obtain ⟨y, ok, ha1, ha2⟩ := hK.args _ _ _ _ hag
     simp only at ha2
     subst ha2
     repeat apply W_seq
     refine W_region (by simp [hix, hbb, ha1]; first | exact ⟨rfl, rfl⟩ | exact rfl) ?_
     try simp only [thenQ, blockQ, Ann.kill, List.find?_nil]
     repeat apply W_seq
     refine W_region (by simp; first | exact ⟨rfl, rfl⟩ | exact rfl) ?_
     try simp only [thenQ, blockQ, Ann.kill, List.find?_nil]
     repeat apply W_seq
     refine W_cond (t := true) (by simp) ?_
     simp only [if_true, if_false, Bool.false_eq_true]
     repeat apply W_seq
     refine W_exit ?_
     try simp only [thenQ, blockQ, if_true, Ann.kill, List.find?_nil]
     repeat apply W_seq
     refine W_region (by simp [hw1]; first | exact ⟨rfl, rfl⟩ | exact rfl) ?_
     try simp only [thenQ, blockQ, Ann.kill, List.find?_nil]
     exact ⟨lk.length - (i + 1), by omega, i + 1, nx, s2, v2, w2, rfl, c2, hst, by simp, hNb, hkb, hEn, Rb, hFb, hL2⟩
    ·rename_i al hag
     split at ho
     rotate_left
     ·cases ho
     rename_i hall
     split at ho
     ·cases ho
     rename_i ru hru
     have hrl := hK.ruleAt _ _ hru
     obtain ⟨y, ok, ha1, ha2⟩ := hK.args _ _ _ _ hag
     simp only at ha2
     obtain ⟨rfl, rfl⟩ := ha2
     obtain ⟨τ4, v4, g1, g2, g3, g4⟩ := goal_ld Rb ru (y := .t (.list (rows1 al))) (al := al) (.inr (.inl rfl)) (fun j hj => by simp [locV] at hj) a.1 hall.2 (by omega)
     have hL4 : ∀ j ∈ locsP v4, j < τ.length := fun j hj => (g4 j hj).elim (hL2 j) (fun hm => by simp [locV] at hm)
     repeat apply W_seq
     refine W_region (by simp [hix, hbb, ha1]; first | exact ⟨rfl, rfl⟩ | exact rfl) ?_
     try simp only [thenQ, blockQ, Ann.kill, List.find?_nil]
     repeat apply W_seq
     refine W_region (by simp; first | exact ⟨rfl, rfl⟩ | exact rfl) ?_
     try simp only [thenQ, blockQ, Ann.kill, List.find?_nil]
     repeat apply W_seq
     refine W_cond (t := false) (by simp) ?_
     simp only [if_true, if_false, Bool.false_eq_true]
     refine W_skip ?_
     try simp only [thenQ, blockQ, Ann.kill, List.find?_nil]
     repeat apply W_seq
     refine W_region (by simp [hix, hr, hbb, hrl, g1]; first | exact ⟨rfl, rfl⟩ | exact rfl) ?_
     try simp only [thenQ, blockQ, Ann.kill, List.find?_nil]
     split at ho
     ·-- too many goals
      rename_i n hneg
      cases ho
      simp only at hst
      cases hst
      simp only [Option.some.injEq, Prod.mk.injEq] at h
      obtain ⟨rfl, rfl⟩ := h
      rw [hneg]
      repeat apply W_seq
      refine W_region (by simp; first | exact ⟨rfl, rfl⟩ | exact rfl) ?_
      try simp only [thenQ, blockQ, Ann.kill, List.find?_nil]
      repeat apply W_seq
      refine W_cond (t := true) (by simp [Int.negSucc_lt_zero n]) ?_
      simp only [if_true, if_false, Bool.false_eq_true]
      repeat apply W_seq
      refine W_region (by simp [sliceCells, repZero, chunk, fillV]; first | exact ⟨rfl, rfl⟩ | exact rfl) ?_
      try simp only [thenQ, blockQ, Ann.kill, List.find?_nil]
      refine W_ret ?_
      try simp only [thenQ, blockQ]
      have l4 := g2.lt
      have R5 := g2.fr (σ' := τ4 ++ [.cells [] 0 0]) (fun j hj => List.getElem?_append_left hj)
      refine ⟨trivial, _, (by simp [Tryz.f68]), τ4.length, v4, ⟨0, 0, rfl, by rw [getA]; rfl, Nat.le_refl _⟩, R5, (hF.trans (hFb.trans g3 (fun j hj => .inl hj)) (fun j hj => .inl hj)).trans (Fr.app [r, gl] _ _) (fun j hj => .inl hj), ⟨by omega, by omega⟩, fun a ha => by cases ha⟩
     ·rename_i i0 hpos
      split at ho
      ·cases ho
      rename_i g hgi
      split at ho
      rotate_left
      ·cases ho
      rename_i hel
      split at ho
      ·cases ho
      rename_i nx' hends
      cases ho
      simp only at hst
      rw [hpos]
      repeat apply W_seq
      refine W_region (by simp; first | exact ⟨rfl, rfl⟩ | exact rfl) ?_
      try simp only [thenQ, blockQ, Ann.kill, List.find?_nil]
      repeat apply W_seq
      refine W_cond (t := false) (by simp [show ¬ ((i0 : Int) < 0) by omega]) ?_
      simp only [if_true, if_false, Bool.false_eq_true]
      refine W_skip ?_
      try simp only [thenQ, blockQ, Ann.kill, List.find?_nil]
      repeat apply W_seq
      refine W_region (by simp; first | exact ⟨rfl, rfl⟩ | exact rfl) ?_
      try simp only [thenQ, blockQ, Ann.kill, List.find?_nil]
      repeat apply W_seq
      refine W_block ?_
      generalize hs4 : (goalS s2 ru al a.1).1 = s4 at hgi hst g2
      clear hs4 hpos g1 ha1 hrl
      have lt4 := hF2.1
      have nd4 : τ.length ≠ r ∧ τ.length ≠ gl := ⟨by omega, by omega⟩
      have l3 : τ3.length ≤ τ4.length := g3.1
      have hN4 : AtS τ4 w2 τ.length nx := hNb.keep (g3.2 _ hNb.lt (by simp only [List.mem_cons, List.not_mem_nil, or_false]; omega))
      have hb3 := lt_of_get hbb
      have hbb4 : τ4[τ2.length]? = some (.cells [.t (I a.1), .t (envT a.2)] 0 0) := by rw [g3.2 _ hb3 (by simp only [List.mem_cons, List.not_mem_nil, or_false]; omega)]; exact hbb
      have hkb4 : τ4[dk]? = some (.cells (cellsA lk) gk wgk) := by rw [g3.2 _ (lt_of_get hkb) (by simp only [List.mem_cons, List.not_mem_nil, or_false]; omega)]; exact hkb
      obtain ⟨gg4, gw4, hgw4, hr4, hg4⟩ := g2.run
      simp only [rnObj] at hr4
      have hi4 := lt_of_get hgi
      obtain ⟨pp, hpp⟩ := get_of_lt (show i0 < v4.length by rw [g2.rd.1]; exact hi4)
      obtain ⟨_, _, _, c4, _⟩ := gcells_get hgi hpp
      have hcl4 := gcells_len s4.goals v4 g2.rd.1
      obtain ⟨_, re4, _⟩ := g2.rd.2 i0 g pp hgi hpp
      have hppl : ∀ j ∈ locV pp.2.1, j ≠ τ.length := fun j hj => by have := hL4 j (mem_locsP hpp j (.inr (.inl hj))); omega
      have hi5 : (i0 : Int) < s4.goals.length := by omega
      have hi6 : i0 * 5 + 3 + 1 ≤ s4.goals.length * 5 := by omega
      refine W_loop (I := fun m st τ5 => ∃ e nx3 w3, m = g.ends.length - e ∧ e ≤ g.ends.length ∧ endsS K text bs a (g.ends.drop e) nx3 = some nx' ∧ st.vars = [(0, .ptr r 0 0 6), (1, .t xs), (2, .sl dk gk 0 lk.length 2), (6, .t .nils), (7, .t (I k)), (8, w3), (9, .t (I i)), (10, .ptr τ2.length 0 0 2), (13, .t (.list (rows1 al))), (14, .t (B true)), (15, .t (I i0)), (16, .t (I e))] ∧ AtS τ5 w3 τ.length nx3 ∧ OkE nx3 ∧ Fr [τ.length] τ4 τ5) ?_ g.ends.length _ _ ⟨0, nx, w2, rfl, Nat.zero_le _, hends, by simp, hN4, hEn, Fr.refl _ _⟩
      clear hends
      rintro m ⟨vars, scr⟩ τ5 ⟨e, nx3, w3, rfl, he, hends, hvs, hN5, hEn5, hF5⟩
      simp only at hvs
      subst hvs
      have own : ∀ j, j < τ4.length → j ≠ τ.length → τ5[j]? = τ4[j]? := fun j h1 h2 => hF5.2 j h1 (by simpa using h2)
      have hr5 : τ5[r]? = some (.cells [.t rules, .t (.str text), .sl gl gg4 0 s4.goals.length 5, .t (I s4.rank), .t (B s4.fresh), .t (B s4.full)] 0 0) := by rw [own r (lt_of_get hr4) (Ne.symm nd4.1)]; exact hr4
      have hg5 : τ5[gl]? = some (.cells (gcells s4.goals v4) gg4 gw4) := by rw [own gl (lt_of_get hg4) (Ne.symm nd4.2)]; exact hg4
      have hbb5 : τ5[τ2.length]? = some (.cells [.t (I a.1), .t (envT a.2)] 0 0) := by rw [own _ (lt_of_get hbb4) (by omega)]; exact hbb4
      have re5 : Rd τ5 pp.2.1 g.ends := re4.keep fun j hj => own j (re4.locs j hj) (hppl j hj)
      repeat apply W_seq
      refine W_region (by simp [hr5, hg5, hcl4, hi5, hi6, hgw4, c4, re5.len]; first | exact ⟨rfl, rfl⟩ | exact rfl) ?_
      try simp only [thenQ, blockQ, Ann.kill, List.find?_nil]
      by_cases c3 : e < g.ends.length
      ·repeat apply W_seq
       refine W_cond (t := true) (by simp [c3]) ?_
       simp only [if_true, if_false, Bool.false_eq_true]
       refine W_skip ?_
       try simp only [thenQ, blockQ, Ann.kill, List.find?_nil]
       repeat apply W_seq
       refine W_block ?_
       obtain ⟨n, hn⟩ := get_of_lt c3
       rw [drop_get hn] at hends
       simp only [endsS] at hends
       split at hends
       rotate_left
       ·cases hends
       rename_i hen
       split at hends
       rotate_left
       ·cases hends
       rename_i env' hbd
       obtain ⟨hel', hbl⟩ := hK.bind _ _ _ _ hbd
       obtain ⟨w4, τ6, q1, q2, q3⟩ := put_ld hN5 (n, env') hen.2.2 hEn5
       simp only [xT] at q1
       have hen1 := hen.1
       have hen2 := hen.2.1
       have hen3 : (a.1 : Int) ≤ n ∧ (n : Int) ≤ text.length := by omega
       rcases re5 with ⟨_, h0⟩ | h0 | ⟨dd, dg, dw, h0, h7, h8⟩
       ·rw [h0] at hn; simp at hn
       ·rw [h0] at c4
        repeat apply W_seq
        refine W_region (by simp [hr5, hg5, hcl4, hi5, hi6, hgw4, c4, hn]; first | exact ⟨rfl, rfl⟩ | exact rfl) ?_
        try simp only [thenQ, blockQ, Ann.kill, List.find?_nil]
        repeat apply W_seq
        refine W_region (by simp [hix, hr5, hbb5, hen1, hen2, hen3.1, hen3.2, hbl, buildAt, q1]; first | exact ⟨rfl, rfl⟩ | exact rfl) ?_
        try simp only [thenQ, blockQ, Ann.kill, List.find?_nil]
        repeat apply W_seq
        refine W_region (by simp [IntWalk.i64_in ((e : Int) + 1) (by omega)]; first | exact ⟨rfl, rfl⟩ | exact rfl) ?_
        try simp only [thenQ, blockQ, Ann.kill, List.find?_nil]
        exact ⟨g.ends.length - (e + 1), by omega, e + 1, putS nx3 (n, env'), w4, rfl, c3, hends, by simp, q2, hEn5.put hel', hF5.trans q3 (fun j hj => .inl hj)⟩
       ·rw [h0] at c4
        have he1 : e + 1 ≤ g.ends.length := c3
        repeat apply W_seq
        refine W_region (by simp [hr5, hg5, hcl4, hi5, hi6, hgw4, c4, hn, h7, h8, c3, he1]; first | exact ⟨rfl, rfl⟩ | exact rfl) ?_
        try simp only [thenQ, blockQ, Ann.kill, List.find?_nil]
        repeat apply W_seq
        refine W_region (by simp [hix, hr5, hbb5, hen1, hen2, hen3.1, hen3.2, hbl, buildAt, q1]; first | exact ⟨rfl, rfl⟩ | exact rfl) ?_
        try simp only [thenQ, blockQ, Ann.kill, List.find?_nil]
        repeat apply W_seq
        refine W_region (by simp [IntWalk.i64_in ((e : Int) + 1) (by omega)]; first | exact ⟨rfl, rfl⟩ | exact rfl) ?_
        try simp only [thenQ, blockQ, Ann.kill, List.find?_nil]
        exact ⟨g.ends.length - (e + 1), by omega, e + 1, putS nx3 (n, env'), w4, rfl, c3, hends, by simp, q2, hEn5.put hel', hF5.trans q3 (fun j hj => .inl hj)⟩
      ·repeat apply W_seq
       refine W_cond (t := false) (by simp [c3]) ?_
       simp only [if_true, if_false, Bool.false_eq_true]
       repeat apply W_seq
       refine W_exit ?_
       try simp only [thenQ, blockQ, if_true, Ann.kill, List.find?_nil]
       have : e = g.ends.length := by omega
       subst this
       rw [List.drop_length] at hends
       simp only [endsS, Option.some.injEq] at hends
       subst hends
       repeat apply W_seq
       refine W_region (by simp [hw1]; first | exact ⟨rfl, rfl⟩ | exact rfl) ?_
       try simp only [thenQ, blockQ, Ann.kill, List.find?_nil]
       have R5 := g2.fr1 own (Ne.symm nd4.1) (Ne.symm nd4.2) (fun hm => by have := hL4 _ hm; omega)
       exact ⟨lk.length - (i + 1), by omega, i + 1, nx3, s4, v4, w3, rfl, c2, hst, by simp, hN5, by rw [own dk (lt_of_get hkb4) (by omega)]; exact hkb4, hEn5, R5, (hFb.trans g3 (fun j hj => .inl hj)).trans hF5 (fun j hj => .inr (by simp only [List.mem_singleton] at hj; omega)), hL4⟩
   ·rename_i hkind
    repeat apply W_seq
    refine W_cond (t := true) (by simp [show ¬ (kind : Int) = 3 by omega]) ?_
    simp only [if_true, if_false, Bool.false_eq_true]
    split at ho
    ·cases ho
    ·rename_i hpl
     cases ho
     obtain ⟨n, ok, hp1, hp2⟩ := hK.plain _ _ _ _ hpl
     simp only [Int.ofNat_eq_natCast] at hp1 hp2
     subst hp2
     repeat apply W_seq
     refine W_region (by simp [hix, hr, hbb, hp1]; first | exact ⟨rfl, rfl⟩ | exact rfl) ?_
     try simp only [thenQ, blockQ, Ann.kill, List.find?_nil]
     repeat apply W_seq
     refine W_region (by simp; first | exact ⟨rfl, rfl⟩ | exact rfl) ?_
     try simp only [thenQ, blockQ, Ann.kill, List.find?_nil]
     repeat apply W_seq
     refine W_cond (t := false) (by simp) ?_
     simp only [if_true, if_false, Bool.false_eq_true]
     refine W_skip ?_
     try simp only [thenQ, blockQ, Ann.kill, List.find?_nil]
     repeat apply W_seq
     refine W_exit ?_
     try simp only [thenQ, blockQ, if_true, Ann.kill, List.find?_nil]
     repeat apply W_seq
     refine W_region (by simp [hw1]; first | exact ⟨rfl, rfl⟩ | exact rfl) ?_
     try simp only [thenQ, blockQ, Ann.kill, List.find?_nil]
     exact ⟨lk.length - (i + 1), by omega, i + 1, nx, s2, v2, w2, rfl, c2, hst, by simp, hNb, hkb, hEn, Rb, hFb, hL2⟩
    ·rename_i p hpl
     split at ho
     rotate_left
     ·cases ho
     rename_i hnl
     cases ho
     obtain ⟨n, ok, hp1, hp2⟩ := hK.plain _ _ _ _ hpl
     simp only [Int.ofNat_eq_natCast] at hp1 hp2
     obtain ⟨rfl, rfl⟩ := hp2
     obtain ⟨w3, τ4, q1, q2, q3⟩ := put_ld hNb (p, a.2) hnl hEn
     simp only [xT] at q1
     repeat apply W_seq
     refine W_region (by simp [hix, hr, hbb, hp1]; first | exact ⟨rfl, rfl⟩ | exact rfl) ?_
     try simp only [thenQ, blockQ, Ann.kill, List.find?_nil]
     repeat apply W_seq
     refine W_region (by simp; first | exact ⟨rfl, rfl⟩ | exact rfl) ?_
     try simp only [thenQ, blockQ, Ann.kill, List.find?_nil]
     repeat apply W_seq
     refine W_cond (t := true) (by simp) ?_
     simp only [if_true, if_false, Bool.false_eq_true]
     repeat apply W_seq
     refine W_region (by simp [hbb, buildAt, q1]; first | exact ⟨rfl, rfl⟩ | exact rfl) ?_
     try simp only [thenQ, blockQ, Ann.kill, List.find?_nil]
     repeat apply W_seq
     refine W_exit ?_
     try simp only [thenQ, blockQ, if_true, Ann.kill, List.find?_nil]
     repeat apply W_seq
     refine W_region (by simp [hw1]; first | exact ⟨rfl, rfl⟩ | exact rfl) ?_
     try simp only [thenQ, blockQ, Ann.kill, List.find?_nil]
     have own : ∀ j, j < τ3.length → j ≠ τ.length → τ4[j]? = τ3[j]? := fun j h1 h2 => q3.2 j h1 (by simpa using h2)
     have nd : dk ≠ τ.length := by omega
     have nr : r ≠ τ.length := by omega
     have ng : gl ≠ τ.length := by omega
     have R4 := Rb.fr1 own nr ng (fun hm => by have := hL2 _ hm; omega)
     exact ⟨lk.length - (i + 1), by omega, i + 1, putS nx (p, a.2), s2, v2, w3, rfl, c2, hst, by simp, q2, by rw [own dk (lt_of_get hkb) nd]; exact hkb, hEn.put hEa, R4, hFb.trans q3 (fun j hj => .inr (by simp only [List.mem_singleton] at hj; omega)), hL2⟩
  ·repeat apply W_seq
   refine W_cond (t := false) (by simp [c2]) ?_
   simp only [if_true, if_false, Bool.false_eq_true]
   repeat apply W_seq
   refine W_exit ?_
   try simp only [thenQ, blockQ, if_true, Ann.kill, List.find?_nil]
   have : i = lk.length := by omega
   subst this
   rw [List.drop_length] at hst
   simp only [stepS, Option.some.injEq] at hst
   subst hst
   simp only at h
   repeat apply W_seq
   refine W_region (by simp; first | exact ⟨rfl, rfl⟩ | exact rfl) ?_
   try simp only [thenQ, blockQ, Ann.kill, List.find?_nil]
   repeat apply W_seq
   refine W_region (by simp [IntWalk.i64_in ((k : Int) + 1) (by omega)]; first | exact ⟨rfl, rfl⟩ | exact rfl) ?_
   try simp only [thenQ, blockQ, Ann.kill, List.find?_nil]
   refine ⟨syms.length - (k + 1), by omega, k + 1, nx, s2, v2, τ.length, w2, rfl, c1, h, by simp, hN, ⟨by omega, by omega⟩, hEn, R2, hF.trans hF2 (fun i hi => .inl hi)⟩
 ·repeat apply W_seq
  refine W_cond (t := false) (by simp [c1]) ?_
  simp only [if_true, if_false, Bool.false_eq_true]
  repeat apply W_seq
  refine W_exit ?_
  try simp only [thenQ, blockQ, if_true, Ann.kill, List.find?_nil]
  have : k = syms.length := by omega
  subst this
  rw [List.drop_length] at h
  simp only [altS, Option.some.injEq, Prod.mk.injEq] at h
  obtain ⟨rfl, rfl⟩ := h
  repeat apply W_seq
  refine W_region (by simp; first | exact ⟨rfl, rfl⟩ | exact rfl) ?_
  try simp only [thenQ, blockQ, Ann.kill, List.find?_nil]
  refine W_ret ?_
  try simp only [thenQ, blockQ]
  exact ⟨trivial, _, (by simp [Tryz.f68]), dk, vk, hAt, R, hF, hd, hE⟩
end X
