/- A part of the proof. No statement of the claim is in it. -/
import Derived.Test.YtiemeabiekeekaaGreatSc
import Derived.Test.YtiemeabiekeekaaGreatY
set_option maxRecDepth 100000
set_option maxHeartbeats 4000000
set_option linter.all false
open Go Go.V Go.Proofs
namespace X
attribute [-simp] lenV idxV getElem?_pos
/-! ### The kids of a first tree's node -/
def tryS (K : Kn) (text : List Nat) (rec : At → Option (Option (List Nat × List Nat))) (at_ rank : Nat) (bs : List Nat) (a : At) : List Nat → List Nat → Option (Option (List Nat × List Nat))
 | e :: r, k :: q => if rank ≤ k then tryS K text rec at_ rank bs a r q
  else if a.1 ≤ e ∧ e ≤ text.length then match K.bind a.2 bs ((text.take e).drop a.1) with
   | none => none
   | some env => match rec (e, env) with
    | none => none
    | some none => tryS K text rec at_ rank bs a r q
    | some (some p) => some (some (at_ :: p.1, e :: p.2))
   else none
 | [], _ => some none
 | _ :: _, [] => none
def kidsS (K : Kn) (text : List Nat) (goals : List Gl) (to rank : Nat) : List T → At → Option (Option (List Nat × List Nat))
 | [], a => some (if a.1 = to then some ([], []) else none)
 | x :: r, a => match x with
  | .agg [.int .i64 (.ofNat kind), .str nm, ax, .str bs] =>
   if kind = 3 then match K.args ax a.2 a.1 with
    | none => none
    | some none => some none
    | some (some al) => if al.length ≤ 1000 then match K.ruleAt nm with
     | none => none
     | some ru => match gIx ru al a.1 goals 0 with
      | .negSucc _ => some none
      | .ofNat at_ => match goals[at_]? with
       | none => none
       | some g => tryS K text (kidsS K text goals to rank r) at_ rank bs a g.ends g.ranks
     else none
   else match K.plain x a.2 a.1 with
    | none => none
    | some none => some none
    | some (some p) => kidsS K text goals to rank r (p, a.2)
  | _ => none
def mkOb (rules : List T) (text : List Nat) (rows : List T) (ov : V) : Go.V.Obj := .cells [.t (.list rules), .t (.str text), .t (.list rows), ov] 0 0
def KOut (σ : Store) (n : Nat) (v : V) : Option (List Nat × List Nat) → Prop
 | none => v = .t (.tup [.list [], .list [], B false])
 | some p => (p = ([], []) ∧ v = .t (.tup [.list [], .list [], B true])) ∨ ∃ dg gg wg de ge we, v = .tup [.sl dg gg 0 p.1.length 1, .sl de ge 0 p.2.length 1, .t (B true)] ∧ σ[dg]? = some (.cells (ints p.1) gg wg) ∧ wg ≤ gg ∧ σ[de]? = some (.cells (ints p.2) ge we) ∧ we ≤ ge ∧ n ≤ dg ∧ n ≤ de ∧ dg ≠ de ∧ 0 < p.1.length ∧ 0 < p.2.length
theorem kids_ld {K : Kn} {rules : List T} {text : List Nat} (hK : KnOk K (.list rules) text) {goals : List Gl} {rows : List T} (hg : GRows goals rows) (hog : OkG goals) (hgl : goals.length ≤ 1000) (hends : ∀ g ∈ goals, g.ends.length ≤ 1000 ∧ g.ranks.length = g.ends.length) (htl : text.length ≤ 1000) {r : Nat} {ov : V} (to rank : Nat) :
  ∀ (syms : List T) (a : At) (xs : T) (σ : Store) (o : Option (List Nat × List Nat)), Syms xs syms → syms.length ≤ 1000 → σ[r]? = some (mkOb rules text rows ov) → kidsS K text goals to rank syms a = some o →
  ∃ v σ', LD S 39 [.ptr r 0 0 4, .t xs, .t (xT a), .t (I to), .t (I rank)] σ = some (v, σ') ∧ Fr [] σ σ' ∧ KOut σ' σ.length v o ∧ ∀ p, o = some p → p.1.length ≤ syms.length ∧ p.2.length = p.1.length := by
 have pfk : S.pf 39 = false := rfl
 intro syms
 induction syms with
 | nil =>
  intro a xs σ o hxs hsl hr h
  simp only [kidsS, Option.some.injEq] at h
  subst h
  suffices hh : ∃ v σ', LV S 39 [.ptr r 0 0 4, .t xs, .t (xT a), .t (I to), .t (I rank)] σ = some (v, σ') ∧ Fr [] σ σ' ∧ v = .t (.tup [.list [], .list [], B ((a.1 : Int) == to)]) by
   obtain ⟨v, σ', h1, h2, rfl⟩ := hh
   refine ⟨_, σ', by rw [LD_inl (A := A39) rfl rfl rfl]; exact h1, h2, ?_, ?_⟩
   ·by_cases c : a.1 = to
    ·rw [if_pos c]
     exact .inl ⟨rfl, by simp [c]⟩
    ·rw [if_neg c]
     have : ((a.1 : Int) == to) = false := by simp; omega
     simp only [KOut, this]
   ·intro p hp
    split at hp
    ·cases hp; simp
    ·cases hp
  refine LV_bodyX (A := A39) rfl Tryz.func39 rfl ?_
  repeat apply wS
  refine wR (by simp [xT]; constructor <;> rfl) ?_
  try simp only [tq]
  repeat apply wS
  refine wR (by simp [hxs.len]; constructor <;> rfl) ?_
  try simp only [tq]
  repeat apply wS
  refine wC (t := true) (by simp) ?_
  simp only [iq]
  repeat apply wS
  refine wR (by simp [getA, sliceCells, repZero, chunk, fillV, allT]; constructor <;> rfl) ?_
  try simp only [tq]
  refine W_ret ?_
  try simp only [tq]
  exact ⟨trivial, _, (by simp [Tryz.f39]), Fr.app _ _ _, rfl⟩
 | cons x rest ih =>
  intro a xs σ o hxs hsl hr h
  have hxl : xs = .list (x :: rest) := by
   rcases hxs with ⟨_, e⟩ | e
   ·cases e
   ·exact e
  subst hxl
  simp only [List.length_cons] at hsl
  have lr := lt_of_get hr
  simp only [mkOb] at hr
  -- what is none of a call's own
  have no : ∀ {v : V} {σ' : Store}, LV S 39 [.ptr r 0 0 4, .t (.list (x :: rest)), .t (xT a), .t (I to), .t (I rank)] σ = some (v, σ') → Fr [] σ σ' → KOut σ' σ.length v o → (∀ p, o = some p → p.1.length ≤ (x :: rest).length ∧ p.2.length = p.1.length) →
    ∃ v σ', LD S 39 [.ptr r 0 0 4, .t (.list (x :: rest)), .t (xT a), .t (I to), .t (I rank)] σ = some (v, σ') ∧ Fr [] σ σ' ∧ KOut σ' σ.length v o ∧ ∀ p, o = some p → p.1.length ≤ (x :: rest).length ∧ p.2.length = p.1.length :=
   fun {v σ'} h1 h2 h3 h4 => ⟨v, σ', by rw [LD_inl (A := A39) rfl rfl rfl]; exact h1, h2, h3, h4⟩
  suffices hh : ∃ v σ', LV S 39 [.ptr r 0 0 4, .t (.list (x :: rest)), .t (xT a), .t (I to), .t (I rank)] σ = some (v, σ') ∧ Fr [] σ σ' ∧ KOut σ' σ.length v o ∧ ∀ p, o = some p → p.1.length ≤ (x :: rest).length ∧ p.2.length = p.1.length by
   obtain ⟨v, σ', h1, h2, h3, h4⟩ := hh
   exact no h1 h2 h3 h4
  clear no
  simp only [kidsS] at h
  split at h
  rotate_left
  ·cases h
  rename_i kind nm ax bs
  refine LV_bodyX (A := A39) rfl Tryz.func39 rfl ?_
  have hF0 : Fr [] σ (σ ++ [boxA a]) := Fr.app _ _ _
  have hr1 : (σ ++ [boxA a])[r]? = some (mkOb rules text rows ov) := by rw [List.getElem?_append_left lr]; exact hr
  have hb1 : (σ ++ [boxA a])[σ.length]? = some (boxA a) := by rw [getA]; rfl
  have hl1 : (σ ++ [boxA a]).length = σ.length + 1 := by simp
  repeat apply wS
  refine wR (by simp [xT]; constructor <;> rfl) ?_
  try simp only [tq]
  show W _ _ _ _ _ (σ ++ [boxA a])
  revert hF0 hr1 hb1 hl1
  generalize (σ ++ [boxA a]) = σ1
  intro hF0 hr1 hb1 hl1
  have hr1' := hr1
  simp only [mkOb] at hr1
  simp only [boxA] at hb1
  repeat apply wS
  refine wR (by simp; constructor <;> rfl) ?_
  try simp only [tq]
  repeat apply wS
  refine wC (t := false) (by simp [show ¬ ((rest.length : Int) + 1 = 0) by omega]) ?_
  simp only [iq]
  refine W_skip ?_
  try simp only [tq]
  repeat apply wS
  refine wR (by simp; constructor <;> rfl) ?_
  try simp only [tq]
  by_cases k3 : kind = 3
  ·rw [if_pos k3] at h
   repeat apply wS
   refine wC (t := false) (by simp [show (kind : Int) = 3 by omega]) ?_
   simp only [iq]
   refine W_skip ?_
   try simp only [tq]
   split at h
   ·cases h
   ·rename_i hag
    cases h
    obtain ⟨y, ok, ha1, ha2⟩ := hK.args _ _ _ _ hag
    simp only at ha2
    subst ha2
    repeat apply wS
    refine wR (by simp [hb1, ha1]; constructor <;> rfl) ?_
    try simp only [tq]
    repeat apply wS
    refine wR (by simp; constructor <;> rfl) ?_
    try simp only [tq]
    repeat apply wS
    refine wC (t := true) (by simp) ?_
    simp only [iq]
    repeat apply wS
    refine wR (by simp [sliceCells, repZero, chunk, fillV, allT]; constructor <;> rfl) ?_
    try simp only [tq]
    refine W_ret ?_
    try simp only [tq]
    exact ⟨trivial, _, (by simp [Tryz.f39]), hF0, rfl, fun p hp => by cases hp⟩
   ·rename_i al hag
    split at h
    rotate_left
    ·cases h
    rename_i hal
    split at h
    ·cases h
    rename_i ru hru
    have hrl := hK.ruleAt _ _ hru
    obtain ⟨y, ok, ha1, ha2⟩ := hK.args _ _ _ _ hag
    simp only at ha2
    obtain ⟨rfl, rfl⟩ := ha2
    have hfind : LD S 61 [.t (.list rows), .t (I ru), .t (.list (rows1 al)), .t (I a.1)] σ1 = some (.t (I (gIx ru al a.1 goals 0)), σ1) :=
     LD_pure (A := A61) (args := [.t (.list rows), .t (I ru), .t (.list (rows1 al)), .t (I a.1)]) (v := .t (I (gIx ru al a.1 goals 0))) (σ0 := []) rfl rfl rfl (find_lv hg ru (.inr rfl) a.1 hog (by omega)) rfl σ1
    repeat apply wS
    refine wR (by simp [hb1, ha1]; constructor <;> rfl) ?_
    try simp only [tq]
    repeat apply wS
    refine wR (by simp; constructor <;> rfl) ?_
    try simp only [tq]
    repeat apply wS
    refine wC (t := false) (by simp) ?_
    simp only [iq]
    refine W_skip ?_
    try simp only [tq]
    split at h
    ·rename_i n hneg
     cases h
     rw [hneg] at hfind
     repeat apply wS
     refine wR (by simp [hb1, hr1, hrl, hfind]; constructor <;> rfl) ?_
     try simp only [tq]
     repeat apply wS
     refine wR (by simp; constructor <;> rfl) ?_
     try simp only [tq]
     repeat apply wS
     refine wC (t := true) (by simp [Int.negSucc_lt_zero n]) ?_
     simp only [iq]
     repeat apply wS
     refine wR (by simp [sliceCells, repZero, chunk, fillV, allT]; constructor <;> rfl) ?_
     try simp only [tq]
     refine W_ret ?_
     try simp only [tq]
     exact ⟨trivial, _, (by simp [Tryz.f39]), hF0, rfl, fun p hp => by cases hp⟩
    ·rename_i i0 hpos
     split at h
     ·cases h
     rename_i g hgi
     rw [hpos] at hfind
     have hfind' : LD S 61 [.t (.list rows), .t (I ru), .t (.list (rows1 al)), .t (I a.1)] σ1 = some (.t (I i0), σ1) := hfind
     obtain ⟨hel, hrk⟩ := hends g (List.mem_of_getElem? hgi)
     obtain ⟨gx, ge, gk, hrow, igx, ige, igk⟩ := hg.2 i0 g hgi
     repeat apply wS
     refine wR (by simp [hb1, hr1, hrl, hfind']; constructor <;> rfl) ?_
     try simp only [tq]
     repeat apply wS
     refine wR (by simp; constructor <;> rfl) ?_
     try simp only [tq]
     repeat apply wS
     refine wC (t := false) (by simp [show ¬ ((i0 : Int) < 0) by omega]) ?_
     simp only [iq]
     refine W_skip ?_
     try simp only [tq]
     repeat apply wS
     refine wR (by simp; constructor <;> rfl) ?_
     try simp only [tq]
     repeat apply wS
     refine W_block ?_
     refine W_loop (I := fun m st τ => ∃ e, m = g.ends.length - e ∧ e ≤ g.ends.length ∧ tryS K text (kidsS K text goals to rank rest) i0 rank bs a (g.ends.drop e) (g.ranks.drop e) = some o ∧ st.vars = [(0, .ptr r 0 0 4), (1, .t (.list (.agg [.int .i64 kind, .str nm, ax, .str bs] :: rest))), (2, .t (xT a)), (3, .t (I to)), (4, .t (I rank)), (7, .ptr σ.length 0 0 2), (10, .t .nils), (11, .t .nils), (12, .t (B false)), (15, .t (.list (rows1 al))), (16, .t (B true)), (17, .t (I i0)), (18, .t (I e))] ∧ Fr [] σ1 τ) ?_ g.ends.length _ _ ⟨0, rfl, Nat.zero_le _, h, by simp [xT], Fr.refl _ _⟩
     clear h
     rintro m ⟨vars, scr⟩ τ ⟨e, rfl, he, h, hvs, hF⟩
     simp only at hvs
     subst hvs
     have hrt : τ[r]? = some (.cells [.t (.list rules), .t (.str text), .t (.list rows), ov] 0 0) := by rw [hF.2 r (lt_of_get hr1) (by simp)]; exact hr1
     have hbt : τ[σ.length]? = some (.cells [.t (I a.1), .t (envT a.2)] 0 0) := by rw [hF.2 _ (lt_of_get hb1) (by simp)]; exact hb1
     have hlt1 := hF.1
     repeat apply wS
     refine wR (by simp [hrt, hrow, rowT, ige.len]; constructor <;> rfl) ?_
     try simp only [tq]
     by_cases c1 : e < g.ends.length
     ·repeat apply wS
      refine wC (t := true) (by simp [c1]) ?_
      simp only [iq]
      refine W_skip ?_
      try simp only [tq]
      repeat apply wS
      refine W_block ?_
      obtain ⟨n, hn⟩ := get_of_lt c1
      obtain ⟨k, hk⟩ := get_of_lt (show e < g.ranks.length by omega)
      rw [drop_get hn, drop_get hk] at h
      simp only [tryS] at h
      repeat apply wS
      refine wR (by simp [hrt, hrow, rowT, ige.idx hn]; constructor <;> rfl) ?_
      try simp only [tq]
      repeat apply wS
      refine wR (by simp [hrt, hrow, rowT, igk.idx hk]; constructor <;> rfl) ?_
      try simp only [tq]
      by_cases c2 : rank ≤ k
      ·rw [if_pos c2] at h
       repeat apply wS
       refine wC (t := true) (by simp [show (rank : Int) ≤ (k : Int) by omega, c2]) ?_
       simp only [iq]
       repeat apply wS
       refine W_exit ?_
       try simp only [tq, if_true]
       repeat apply wS
       refine wR (by simp [IntWalk.i64_in ((e : Int) + 1) (by omega)]; constructor <;> rfl) ?_
       try simp only [tq]
       exact ⟨g.ends.length - (e + 1), by omega, e + 1, rfl, c1, h, by simp [xT], hF⟩
      ·rw [if_neg c2] at h
       repeat apply wS
       refine wC (t := false) (by simp [show ¬ (rank : Int) ≤ (k : Int) by omega, c2, show k < rank by omega]) ?_
       simp only [iq]
       refine W_skip ?_
       try simp only [tq]
       split at h
       rotate_left
       ·cases h
       rename_i hen
       split at h
       ·cases h
       rename_i env hbd
       obtain ⟨hel', hbl⟩ := hK.bind _ _ _ _ hbd
       have g1 : (1 : Int) ≤ (rest.length : Int) + 1 := by omega
       have g2 : (a.1 : Int) ≤ (n : Int) := by omega
       have g3 : (n : Int) ≤ text.length := by omega
       split at h
       ·cases h
       ·rename_i hrec
        obtain ⟨v2, σ2, i1, i2, i3, i4⟩ := ih (n, env) (.list rest) τ none (.inr rfl) (by omega) (by rw [hrt]; rfl) hrec
        simp only [KOut] at i3
        subst i3
        simp only [xT] at i1
        repeat apply wS
        refine wR (by simp [hrt, hbt, hbl, buildAt, i1, g1, g2, g3, pfk, xT]; constructor <;> rfl) ?_
        try simp only [tq]
        repeat apply wS
        refine wR (by simp; constructor <;> rfl) ?_
        try simp only [tq]
        repeat apply wS
        refine wC (t := false) (by simp) ?_
        simp only [iq]
        refine W_skip ?_
        try simp only [tq]
        repeat apply wS
        refine wR (by simp [IntWalk.i64_in ((e : Int) + 1) (by omega)]; constructor <;> rfl) ?_
        try simp only [tq]
        exact ⟨g.ends.length - (e + 1), by omega, e + 1, rfl, c1, h, by simp [xT], hF.trans i2 (fun j hj => .inl hj)⟩
       ·rename_i q hrec
        cases h
        obtain ⟨v2, σ2, i1, i2, i3, i4⟩ := ih (n, env) (.list rest) τ (some q) (.inr rfl) (by omega) (by rw [hrt]; rfl) hrec
        obtain ⟨i5, i6⟩ := i4 q rfl
        simp only [xT] at i1
        have hF2 : Fr [] σ σ2 := (hF0.trans hF (fun j hj => .inl hj)).trans i2 (fun j hj => .inl hj)
        have hl2 := hF2.1
        have ho4 : ∀ p, some (i0 :: q.1, n :: q.2) = some p → p.1.length ≤ (T.agg [.int .i64 kind, .str nm, ax, .str bs] :: rest).length ∧ p.2.length = p.1.length := fun p hp => by cases hp; simp; omega
        rcases i3 with ⟨rfl, rfl⟩ | ⟨dg, gg, wg, de, ge', we, rfl, j1, j2, j3, j4, j5, j6, j7, j8, j9⟩
        ·repeat apply wS
         refine wR (by simp [hrt, hbt, hbl, buildAt, i1, g1, g2, g3, pfk, xT]; constructor <;> rfl) ?_
         try simp only [tq]
         repeat apply wS
         refine wR (by simp; constructor <;> rfl) ?_
         try simp only [tq]
         repeat apply wS
         refine wC (t := true) (by simp) ?_
         simp only [iq]
         repeat apply wS
         refine wR (by simp [sliceCells, repZero, chunk, fillV, setRange, appendV, srcCells, rowCells]; constructor <;> rfl) ?_
         try simp only [tq]
         refine W_ret ?_
         try simp only [tq]
         refine ⟨trivial, _, (by simp [Tryz.f39]), hF2.trans (Fr.app [] σ2 _) (fun j hj => .inl hj), .inr ⟨σ2.length, 0, 0, σ2.length + 1, 0, 0, rfl, ?_, Nat.le_refl _, ?_, Nat.le_refl _, by omega, by omega, by omega, by simp, by simp⟩, ho4⟩
         ·rw [getA]; rfl
         ·rw [getB]; rfl
        ·have ldg := lt_of_get j1
         have lde := lt_of_get j3
         have hbn1 : (1 + q.1.length) * 8 ≤ 140737488355328 := by omega
         have hbn2 : (1 + q.2.length) * 8 ≤ 140737488355328 := by omega
         have hne1 : ¬ q.1.length = 0 := by omega
         have hne2 : ¬ q.2.length = 0 := by omega
         have e1 : ∀ o, (σ2 ++ o)[dg]? = some (.cells (ints q.1) gg wg) := fun o => by rw [List.getElem?_append_left ldg]; exact j1
         have e2 : ∀ o, (σ2 ++ o)[de]? = some (.cells (ints q.2) ge' we) := fun o => by rw [List.getElem?_append_left lde]; exact j3
         have t1 : (ints q.1).take q.1.length = ints q.1 := List.take_of_length_le (by simp)
         have t2 : (ints q.2).take q.2.length = ints q.2 := List.take_of_length_le (by simp)
         repeat apply wS
         refine wR (by simp [hrt, hbt, hbl, buildAt, i1, g1, g2, g3, pfk, xT]; constructor <;> rfl) ?_
         try simp only [tq]
         repeat apply wS
         refine wR (by simp; constructor <;> rfl) ?_
         try simp only [tq]
         repeat apply wS
         refine wC (t := true) (by simp) ?_
         simp only [iq]
         repeat apply wS
         refine wR (by simp [sliceCells, repZero, chunk, fillV, setRange, appendV, srcCells, rowCells, e1, e2, j2, j4, t1, t2, hbn1, hbn2, hne1, hne2, getA, setA, getB, setB]; constructor <;> rfl) ?_
         try simp only [tq]
         refine W_ret ?_
         try simp only [tq]
         refine ⟨trivial, _, (by simp [Tryz.f39]; rfl), hF2.trans (Fr.app [] σ2 _) (fun j hj => .inl hj), .inr ⟨σ2.length, 1, 0, σ2.length + 1, 1, 0, ?_, ?_, by omega, ?_, by omega, by omega, by omega, by omega, by simp, by simp⟩, ho4⟩
         ·simp [Nat.add_comm]
         ·rw [getA]; simp [ints]
         ·rw [getB]; simp [ints]
     ·repeat apply wS
      refine wC (t := false) (by simp [c1]) ?_
      simp only [iq]
      repeat apply wS
      refine W_exit ?_
      try simp only [tq, if_true]
      have : e = g.ends.length := by omega
      subst this
      rw [List.drop_length] at h
      simp only [tryS, Option.some.injEq] at h
      subst h
      repeat apply wS
      refine wR (by simp [sliceCells, repZero, chunk, fillV, allT]; constructor <;> rfl) ?_
      try simp only [tq]
      refine W_ret ?_
      try simp only [tq]
      exact ⟨trivial, _, (by simp [Tryz.f39]), hF0.trans hF (fun j hj => .inl hj), rfl, fun p hp => by cases hp⟩
  ·rw [if_neg k3] at h
   repeat apply wS
   refine wC (t := true) (by simp [show ¬ (kind : Int) = 3 by omega]) ?_
   simp only [iq]
   split at h
   ·cases h
   ·rename_i hpl
    cases h
    obtain ⟨n, ok, hp1, hp2⟩ := hK.plain _ _ _ _ hpl
    simp only [Int.ofNat_eq_natCast] at hp1 hp2
    subst hp2
    repeat apply wS
    refine wR (by simp [hb1, hr1, hp1]; constructor <;> rfl) ?_
    try simp only [tq]
    repeat apply wS
    refine wR (by simp; constructor <;> rfl) ?_
    try simp only [tq]
    repeat apply wS
    refine wC (t := true) (by simp) ?_
    simp only [iq]
    repeat apply wS
    refine wR (by simp [sliceCells, repZero, chunk, fillV, allT]; constructor <;> rfl) ?_
    try simp only [tq]
    refine W_ret ?_
    try simp only [tq]
    exact ⟨trivial, _, (by simp [Tryz.f39]), hF0, rfl, fun p hp => by cases hp⟩
   ·rename_i p hpl
    obtain ⟨n, ok, hp1, hp2⟩ := hK.plain _ _ _ _ hpl
    simp only [Int.ofNat_eq_natCast] at hp1 hp2
    obtain ⟨rfl, rfl⟩ := hp2
    obtain ⟨v2, σ2, i1, i2, i3, i4⟩ := ih (p, a.2) (.list rest) σ1 o (.inr rfl) (by omega) hr1' h
    simp only [xT] at i1
    repeat apply wS
    refine wR (by simp [hb1, hr1, hp1]; constructor <;> rfl) ?_
    try simp only [tq]
    repeat apply wS
    refine wR (by simp; constructor <;> rfl) ?_
    try simp only [tq]
    repeat apply wS
    refine wC (t := false) (by simp) ?_
    simp only [iq]
    refine W_skip ?_
    try simp only [tq]
    have hg1 : (1 : Int) ≤ (rest.length : Int) + 1 := by omega
    have ho4 : ∀ p, o = some p → p.1.length ≤ rest.length + 1 ∧ p.2.length = p.1.length := fun p hp => ⟨by have := (i4 p hp).1; omega, (i4 p hp).2⟩
    have hF2 : Fr [] σ σ2 := hF0.trans i2 (fun j hj => .inl hj)
    cases o with
    | none =>
     simp only [KOut] at i3
     subst i3
     repeat apply wS
     refine wR (by simp [hb1, buildAt, i1, hg1, pfk]; constructor <;> rfl) ?_
     try simp only [tq]
     refine W_ret ?_
     try simp only [tq]
     exact ⟨trivial, _, (by simp [Tryz.f39]), hF2, rfl, ho4⟩
    | some q =>
     rcases i3 with ⟨rfl, rfl⟩ | ⟨dg, gg, wg, de, ge, we, rfl, j1, j2, j3, j4, j5, j6, j7, j8⟩
     ·repeat apply wS
      refine wR (by simp [hb1, buildAt, i1, hg1, pfk]; constructor <;> rfl) ?_
      try simp only [tq]
      refine W_ret ?_
      try simp only [tq]
      exact ⟨trivial, _, (by simp [Tryz.f39]), hF2, .inl ⟨rfl, rfl⟩, ho4⟩
     ·repeat apply wS
      refine wR (by simp [hb1, buildAt, i1, hg1, pfk]; constructor <;> rfl) ?_
      try simp only [tq]
      refine W_ret ?_
      try simp only [tq]
      exact ⟨trivial, _, (by simp [Tryz.f39]), hF2, .inr ⟨dg, gg, wg, de, ge, we, rfl, j1, j2, j3, j4, by omega, by omega, j7, j8⟩, ho4⟩
end X
namespace Y
open X
attribute [-simp] lenV idxV setRange getElem?_pos
/-! ### Ranks -/
def rankF : List Nat → List Nat → Nat → Option Nat
 | e :: r, k :: q, to => if e = to then some k else rankF r q to
 | _, _, _ => none
def rankI (o : Option Nat) : Int := match o with
 | some k => (k : Int)
 | none => -1
theorem rank_ld {g : Gl} {gx ge gk : T} (ige : Is ge g.ends) (igk : Is gk g.ranks) (hl : g.ends.length ≤ 1000) (hk : g.ranks.length = g.ends.length) (to : Nat) (σ : Store) :
  LD S 38 [.t (X.rowT g gx ge gk), .t (I to)] σ = some (.t (I (rankI (rankF g.ends g.ranks to))), σ) := by
 suffices hh : ∃ σ', LV S 38 [.t (X.rowT g gx ge gk), .t (I to)] [] = some (.t (I (rankI (rankF g.ends g.ranks to))), σ') by
  obtain ⟨σ', h⟩ := hh
  exact LD_pure (A := A38) (args := [.t (X.rowT g gx ge gk), .t (I to)]) (v := .t (I (rankI (rankF g.ends g.ranks to)))) rfl rfl rfl h rfl σ
 refine LV_bodyE (A := A38) rfl Tryz.func38 rfl ?_
 repeat apply wS
 refine wR (by simp [X.rowT]; constructor <;> rfl) ?_
 try simp only [tq]
 repeat apply wS
 refine wR (by simp; constructor <;> rfl) ?_
 try simp only [tq]
 repeat apply wS
 refine W_block ?_
 refine W_loop (I := fun m st τ => ∃ k, m = g.ends.length - k ∧ k ≤ g.ends.length ∧ rankF g.ends g.ranks to = rankF (g.ends.drop k) (g.ranks.drop k) to ∧ st.vars = [(0, .t (X.rowT g gx ge gk)), (1, .t (I to)), (2, .ptr 0 0 0 5), (4, .t (I 0)), (5, .t (I k))] ∧ τ = [.cells [.t (I g.rule), .t gx, .t (I g.from_), .t ge, .t gk] 0 0]) ?_ g.ends.length _ _ ⟨0, rfl, Nat.zero_le _, rfl, by simp [X.rowT], rfl⟩
 rintro m ⟨vars, scr⟩ τ ⟨k, rfl, hkk, he, hv, rfl⟩
 simp only at hv
 subst hv
 repeat apply wS
 refine wR (by simp [ige.len]; constructor <;> rfl) ?_
 try simp only [tq]
 by_cases c1 : k < g.ends.length
 ·repeat apply wS
  refine wC (t := true) (by simp [c1]) ?_
  simp only [iq]
  refine W_skip ?_
  try simp only [tq]
  repeat apply wS
  refine W_block ?_
  obtain ⟨e, hee⟩ := get_of_lt c1
  obtain ⟨q, hq⟩ := get_of_lt (show k < g.ranks.length by omega)
  rw [X.drop_get hee, X.drop_get hq] at he
  simp only [rankF] at he
  repeat apply wS
  refine wR (by simp [ige.idx hee]; constructor <;> rfl) ?_
  try simp only [tq]
  by_cases c2 : e = to
  ·rw [if_pos c2] at he
   repeat apply wS
   refine wC (t := true) (by simp [c2]) ?_
   simp only [iq]
   repeat apply wS
   refine wR (by simp [igk.idx hq]; constructor <;> rfl) ?_
   try simp only [tq]
   refine W_ret ?_
   try simp only [tq]
   simp [Tryz.f38, he, rankI]
  ·rw [if_neg c2] at he
   repeat apply wS
   refine wC (t := false) (by simp [c2, show ¬ (e : Int) = (to : Int) by omega]) ?_
   simp only [iq]
   refine W_skip ?_
   try simp only [tq]
   repeat apply wS
   refine wR (by simp [IntWalk.i64_in ((k : Int) + 1) (by omega)]; constructor <;> rfl) ?_
   try simp only [tq]
   exact ⟨g.ends.length - (k + 1), by omega, k + 1, rfl, c1, he, by simp [X.rowT], trivial⟩
 ·repeat apply wS
  refine wC (t := false) (by simp [c1]) ?_
  simp only [iq]
  repeat apply wS
  refine W_exit ?_
  try simp only [tq, if_true]
  have : k = g.ends.length := by omega
  subst this
  rw [List.drop_length] at he
  simp only [rankF] at he
  repeat apply wS
  refine wR (by simp; constructor <;> rfl) ?_
  try simp only [tq]
  refine W_ret ?_
  try simp only [tq]
  simp [Tryz.f38, he, rankI]
/-! ### A first tree -/
def zI (l : List Nat) : List Int := l.map fun (n : Nat) => (n : Int)
theorem zI_len (l : List Nat) : (zI l).length = l.length := by simp [zI]
def foldT (rec : Nat → Nat → List N → Option (Option (List N × Nat))) : List Nat → List Nat → List N → List Int → Option (Option (List N × List Int))
 | g :: gs, e :: es, out, ks => match rec g e out with
  | none => none
  | some none => some none
  | some (some p) => foldT rec gs es p.1 (ks ++ [(p.2 : Int)])
 | [], _, out, ks => some (some (out, ks))
 | _ :: _, [], _, _ => none
def altT (K : Kn) (text : List Nat) (goals : List Gl) (rec : Nat → Nat → List N → Option (Option (List N × Nat))) (g : Gl) (env : X.Env) (to rank : Nat) (out : List N) : List T → Nat → Option (Option (List N × Nat))
 | [], _ => some none
 | x :: r, i => match x with
  | .agg [xs] => match symsL xs with
   | none => none
   | some syms => if syms.length ≤ 1000 then match kidsS K text goals to rank syms (g.from_, env) with
    | none => none
    | some none => altT K text goals rec g env to rank out r (i + 1)
    | some (some p) => match foldT rec p.1 p.2 out [] with
     | none => none
     | some none => some none
     | some (some q) => if q.1.length + 1 ≤ 60 then some (some (q.1 ++ [⟨(g.rule : Int), (i : Int), zI g.args, (g.from_ : Int), (to : Int), q.2⟩], q.1.length)) else some none
    else none
  | _ => none
def treeS (K : Kn) (rules : List T) (text : List Nat) (goals : List Gl) : Nat → Nat → Nat → List N → Option (Option (List N × Nat))
 | 0, _, _, _ => none
 | f + 1, at_, to, out => match goals[at_]? with
  | none => none
  | some g => match rules[g.rule]? with
   | some (.agg [.str nm, ps, az]) => match symsL az, K.env0 ps g.args with
    | some al, some env => if al.length ≤ 1000 ∧ g.args.length ≤ 1000 then match rankF g.ends g.ranks to with
     | none => some none
     | some rank => altT K text goals (treeS K rules text goals f) g env to rank out al 0
     else none
    | _, _ => none
   | _ => none
theorem appArgs {x : T} {al : List Nat} (hx : Is x al) (hl : al.length ≤ 1000) (q : Nat) : ∃ g, ∀ ρ : Store, ρ.length = q → appendV S.ty (ρ ++ [.cells [] 0 0]) [35, 35] (.sl q 0 0 0 1) (.t x) = some (.sl q g 0 al.length 1, ρ ++ [.cells (ints (zI al)) g 0]) := by
 have hs : ∀ σ, srcCells σ 1 (.t x) = some (al.length, ints (zI al)) := fun σ => by
  rw [X.args_ints hx]
  simp [X.ints, ints, zI]
 cases al with
 | nil =>
  refine ⟨0, fun ρ h => ?_⟩
  subst h
  simp [appendV, hs, zI, ints]
 | cons n l =>
  have hb : (l.length + 1) * 8 ≤ 140737488355328 := by simp at hl; omega
  refine ⟨1, fun ρ h => ?_⟩
  subst h
  have h1 : (ρ ++ [V.Obj.cells [] 0 0])[ρ.length]? = some (.cells [] 0 0) := by rw [getA]; rfl
  simp [appendV, hs, hb, setA, h1]
def OutT (rules : List T) (text : List Nat) (rows : List T) (r lo : Nat) (σ : Store) (ls : List Nat) (v : V) (σ' : Store) : Option (List N × Nat) → Prop
 | none => v = .t (I (-1)) ∧ σ.length ≤ σ'.length ∧ ∀ i, i < lo → i ≠ r → σ'[i]? = σ[i]?
 | some p => v = .t (I p.2) ∧ p.1.length = p.2 + 1 ∧ p.1.length ≤ 60 ∧ ∃ ov ls', σ'[r]? = some (mkOb rules text rows ov) ∧ Acc σ' ov p.1 lo ls' ∧ r ∉ ls' ∧ σ.length ≤ σ'.length ∧ (∀ i, i < σ.length → i ≠ r → i ∉ ls → σ'[i]? = σ[i]?) ∧ ∀ y ∈ ls', y ∈ ls ∨ σ.length ≤ y
attribute [-simp] loadV
theorem tree_ld {K : Kn} {rules : List T} {text : List Nat} (hK : KnOk K (.list rules) text) {goals : List Gl} {rows : List T} (hg : GRows goals rows) (hog : OkG goals) (hgl : goals.length ≤ 1000) (hends : ∀ g ∈ goals, g.ends.length ≤ 1000 ∧ g.ranks.length = g.ends.length) (htl : text.length ≤ 1000) {r lo : Nat} (hrlo : r < lo) :
  ∀ (f at_ to : Nat) (out : List N) (σ : Store) (ov : V) (ls : List Nat) (o : Option (List N × Nat)), Acc σ ov out lo ls → lo ≤ σ.length → out.length ≤ 60 → σ[r]? = some (mkOb rules text rows ov) → treeS K rules text goals f at_ to out = some o →
  ∃ v σ', LD S 17 [.ptr r 0 0 4, .t (I at_), .t (I to)] σ = some (v, σ') ∧ OutT rules text rows r lo σ ls v σ' o := by
 have pfk : S.pf 39 = false := rfl
 have pfe : S.pf 40 = false := rfl
 intro f
 induction f with
 | zero => intro at_ to out σ ov ls o _ _ _ _ h; cases h
 | succ f ih =>
  intro at_ to out σ ov ls o hacc hlo h60 hr h
  suffices hh : ∃ v σ', LV S 17 [.ptr r 0 0 4, .t (I at_), .t (I to)] σ = some (v, σ') ∧ OutT rules text rows r lo σ ls v σ' o by
   obtain ⟨v, σ', h1, h2⟩ := hh
   exact ⟨v, σ', by rw [LD_inl (A := A17) rfl rfl rfl]; exact h1, h2⟩
  unfold treeS at h
  split at h
  ·cases h
  rename_i g hgi
  split at h
  rotate_left
  ·cases h
  rename_i nm ps az hrule
  split at h
  rotate_left
  ·cases h
  rename_i al env hal henv
  split at h
  rotate_left
  ·cases h
  rename_i hb
  obtain ⟨hel, hrk⟩ := hends g (List.mem_of_getElem? hgi)
  obtain ⟨gx, ge, gk, hrow, igx, ige, igk⟩ := hg.2 at_ g hgi
  have hsy := symsL_eq hal
  have hrank := rank_ld (gx := gx) ige igk hel hrk to
  simp only [X.rowT] at hrank
  refine LV_bodyX (A := A17) rfl Tryz.func17 rfl ?_
  have lr := lt_of_get hr
  have hr0 := hr
  simp only [mkOb] at hr
  have hmk := mk_cells [.t (I g.rule), .t gx, .t (I g.from_), .t ge, .t gk]
  have hmk2 := mk_cells [.t (.str nm), .t ps, .t az]
  repeat apply wS
  refine wR (by simp; constructor <;> rfl) ?_
  try simp only [tq]
  repeat apply wS
  refine wR (by simp [hr, hrow, X.rowT, getA, setA, fillV, setRange]; constructor <;> rfl) ?_
  try simp only [tq]
  repeat apply wS
  refine wR (by simp [getA, hrank]; constructor <;> rfl) ?_
  try simp only [tq]
  repeat apply wS
  refine wR (by simp [getA, hr, List.getElem?_append_left, lr, hrule, setA, getB, setB, fillV, setRange]; constructor <;> rfl) ?_
  try simp only [tq]
  have hb7 : (σ ++ [V.Obj.cells [V.t (I g.rule), .t gx, V.t (I g.from_), .t ge, .t gk] 0 0, V.Obj.cells [V.t (.str nm), .t ps, .t az] 0 0])[σ.length]? = some (.cells [V.t (I g.rule), .t gx, V.t (I g.from_), .t ge, .t gk] 0 0) := by rw [X.getA]; rfl
  have hb9 : (σ ++ [V.Obj.cells [V.t (I g.rule), .t gx, V.t (I g.from_), .t ge, .t gk] 0 0, V.Obj.cells [V.t (.str nm), .t ps, .t az] 0 0])[σ.length + 1]? = some (.cells [V.t (.str nm), .t ps, .t az] 0 0) := by rw [X.getB]; rfl
  have hF0 : X.Fr [] σ (σ ++ [V.Obj.cells [V.t (I g.rule), .t gx, V.t (I g.from_), .t ge, .t gk] 0 0, V.Obj.cells [V.t (.str nm), .t ps, .t az] 0 0]) := X.Fr.app _ _ _
  have hl0 : (σ ++ [V.Obj.cells [V.t (I g.rule), .t gx, V.t (I g.from_), .t ge, .t gk] 0 0, V.Obj.cells [V.t (.str nm), .t ps, .t az] 0 0]).length = σ.length + 2 := by simp
  revert hb7 hb9 hF0 hl0
  generalize (σ ++ [V.Obj.cells [V.t (I g.rule), .t gx, V.t (I g.from_), .t ge, .t gk] 0 0, V.Obj.cells [V.t (.str nm), .t ps, .t az] 0 0]) = τ0
  intro hb7 hb9 hF0 hl0
  repeat apply wS
  refine wR (by simp; constructor <;> rfl) ?_
  try simp only [tq]
  repeat apply wS
  refine W_block ?_
  cases hrk2 : rankF g.ends g.ranks to with
  | none =>
   rw [hrk2] at h
   simp only [Option.some.injEq] at h
   subst h
   refine W_loop_step ?_
   by_cases c0 : 0 < al.length
   ·repeat apply wS
    refine wR (by simp [hb9, hsy.len, rankI, c0]; constructor <;> rfl) ?_
    try simp only [tq]
    repeat apply wS
    refine wC (t := false) (by simp) ?_
    simp only [iq]
    repeat apply wS
    refine W_exit ?_
    try simp only [tq, if_true]
    repeat apply wS
    refine wR (by simp; constructor <;> rfl) ?_
    try simp only [tq]
    refine W_ret ?_
    try simp only [tq]
    exact ⟨trivial, _, (by simp [Tryz.f17]), rfl, by omega, fun j hj _ => hF0.2 j (by omega) (by simp)⟩
   ·repeat apply wS
    refine wR (by simp [hb9, hsy.len, rankI, c0]; constructor <;> rfl) ?_
    try simp only [tq]
    repeat apply wS
    refine wC (t := false) (by simp) ?_
    simp only [iq]
    repeat apply wS
    refine W_exit ?_
    try simp only [tq, if_true]
    repeat apply wS
    refine wR (by simp; constructor <;> rfl) ?_
    try simp only [tq]
    refine W_ret ?_
    try simp only [tq]
    exact ⟨trivial, _, (by simp [Tryz.f17]), rfl, by omega, fun j hj _ => hF0.2 j (by omega) (by simp)⟩
  | some rank =>
  rw [hrk2] at h
  simp only at h
  simp only [rankI]
  obtain ⟨hel2, hen⟩ := hK.env0 _ _ _ henv
  have hRx : ∀ τ, X.Rd τ (.t gx) g.args := fun τ => by
   rcases igx with ⟨rfl, e⟩ | rfl
   ·exact .inl ⟨rfl, e⟩
   ·exact .inr (.inl rfl)
  refine W_loop (I := fun m st τ => ∃ i, m = al.length - i ∧ i ≤ al.length ∧ altT K text goals (treeS K rules text goals f) g env to rank out (al.drop i) i = some o ∧ st.vars = [(0, .ptr r 0 0 4), (1, .t (I at_)), (2, .t (I to)), (6, .t (I 0)), (7, .ptr σ.length 0 0 5), (8, .t (I rank)), (9, .ptr (σ.length + 1) 0 0 3), (10, .t (I i))] ∧ X.Fr [] τ0 τ) ?_ al.length _ _ ⟨0, rfl, Nat.zero_le _, h, by simp, X.Fr.refl _ _⟩
  clear h
  rintro m ⟨vars, scr⟩ τ ⟨i, rfl, hi, h, hv, hF⟩
  simp only at hv
  subst hv
  have hb7t : τ[σ.length]? = some (.cells [V.t (I g.rule), .t gx, V.t (I g.from_), .t ge, .t gk] 0 0) := by rw [hF.2 _ (lt_of_get hb7) (by simp)]; exact hb7
  have hb9t : τ[σ.length + 1]? = some (.cells [V.t (.str nm), .t ps, .t az] 0 0) := by rw [hF.2 _ (lt_of_get hb9) (by simp)]; exact hb9
  have hFt : X.Fr [] σ τ := hF0.trans hF (fun j hj => .inl hj)
  have hrt : τ[r]? = some (mkOb rules text rows ov) := by rw [hFt.2 r lr (by simp)]; exact hr0
  have hlt := hF.1
  by_cases c1 : i < al.length
  ·repeat apply wS
   refine wR (by simp [hb9t, hsy.len, show (i : Int) < al.length by omega]; constructor <;> rfl) ?_
   try simp only [tq]
   repeat apply wS
   refine wC (t := true) (by simp) ?_
   simp only [iq]
   refine W_skip ?_
   try simp only [tq]
   repeat apply wS
   refine W_block ?_
   obtain ⟨x, hx⟩ := get_of_lt c1
   rw [X.drop_get hx] at h
   simp only [altT] at h
   split at h
   rotate_left
   ·cases h
   rename_i xs
   split at h
   ·cases h
   rename_i syms hsyms
   split at h
   rotate_left
   ·cases h
   rename_i hsl
   have hix := hsy.idxk hx (n := 1) rfl
   obtain ⟨o2, ho2⟩ : ∃ o2, kidsS K text goals to rank syms (g.from_, env) = some o2 := by
    cases hq : kidsS K text goals to rank syms (g.from_, env) with
    | none => rw [hq] at h; cases h
    | some o2 => exact ⟨o2, rfl⟩
   rw [ho2] at h
   obtain ⟨v2, σ2, k1, k2, k3, k4⟩ := kids_ld hK hg hog hgl hends htl to rank syms (g.from_, env) xs τ o2 (symsL_eq hsyms) hsl hrt ho2
   have hen' := hen τ _ (hRx τ)
   simp only [xT] at k1
   have hb7s : σ2[σ.length]? = some (.cells [V.t (I g.rule), .t gx, V.t (I g.from_), .t ge, .t gk] 0 0) := by rw [k2.2 _ (lt_of_get hb7t) (by simp)]; exact hb7t
   have hb9s : σ2[σ.length + 1]? = some (.cells [V.t (.str nm), .t ps, .t az] 0 0) := by rw [k2.2 _ (lt_of_get hb9t) (by simp)]; exact hb9t
   have hFs : X.Fr [] σ σ2 := hFt.trans k2 (fun j hj => .inl hj)
   have hrs : σ2[r]? = some (mkOb rules text rows ov) := by rw [hFs.2 r lr (by simp)]; exact hr0
   have hls := k2.1
   cases o2 with
   | none =>
    simp only [KOut] at k3
    subst k3
    repeat apply wS
    refine W_regD (fun _ => true) rfl rfl rfl (fun b hb => by
     simp (maxDischargeDepth := 12) [runOpsD, loadOf, chkH, live_all, okL_live, okL_nil, okL_cons, okAt_load, hb7t, hb9t, hb7s, hb9s, hix, hen', buildAt, k1, pfk, pfe]
     constructor <;> rfl) ?_
    try simp only [tq]
    repeat apply wS
    refine wR (by simp; constructor <;> rfl) ?_
    try simp only [tq]
    repeat apply wS
    refine wC (t := true) (by simp) ?_
    simp only [iq]
    repeat apply wS
    refine W_exit ?_
    try simp only [tq, if_true]
    repeat apply wS
    refine wR (by simp [IntWalk.i64_in ((i : Int) + 1) (by omega)]; constructor <;> rfl) ?_
    try simp only [tq]
    exact ⟨al.length - (i + 1), by omega, i + 1, rfl, c1, h, by simp, hF.trans k2 (fun j hj => .inl hj)⟩
   | some p =>
    simp only at h
    obtain ⟨k5, k6⟩ := k4 p rfl
    repeat apply wS
    refine W.mono (Q := fun e st' τ' => e = .normal ∧ τ' = σ2 ∧ ∃ gv ev, st'.vars = [(0, .ptr r 0 0 4), (1, .t (I at_)), (2, .t (I to)), (6, .t (I 0)), (7, .ptr σ.length 0 0 5), (8, .t (I rank)), (9, .ptr (σ.length + 1) 0 0 3), (10, .t (I i)), (11, gv), (12, ev), (13, .t (B true))] ∧ X.Rd σ2 gv p.1 ∧ X.Rd σ2 ev p.2 ∧ (∀ j ∈ locV gv, σ.length + 2 ≤ j) ∧ ∀ j ∈ locV ev, σ.length + 2 ≤ j) ?_ (fun e st' τ' hq => ?_)
    ·rcases k3 with ⟨rfl, rfl⟩ | ⟨dg, gg, wg, de, ge', we, rfl, j1, j2, j3, j4, j5, j6, j7, j8, j9⟩
     ·refine W_regD (fun _ => true) rfl rfl rfl (fun b hb => by
       simp (maxDischargeDepth := 12) [runOpsD, loadOf, chkH, live_all, okL_live, okL_nil, okL_cons, okAt_load, hb7t, hb9t, hb7s, hb9s, hix, hen', buildAt, k1, pfk, pfe]
       constructor <;> rfl) ?_
      exact ⟨rfl, rfl, .t (.list []), .t (.list []), by simp, .inr (.inl rfl), .inr (.inl rfl), fun j hj => by simp [locV] at hj, fun j hj => by simp [locV] at hj⟩
     ·refine W_regD (fun _ => true) rfl rfl rfl (fun b hb => by
       simp (maxDischargeDepth := 12) [runOpsD, loadOf, chkH, live_all, okL_live, okL_nil, okL_cons, okAt_load, hb7t, hb9t, hb7s, hb9s, hix, hen', buildAt, k1, pfk, pfe]
       constructor <;> rfl) ?_
      exact ⟨rfl, rfl, .sl dg gg 0 p.1.length 1, .sl de ge' 0 p.2.length 1, by simp, .inr (.inr ⟨dg, gg, wg, rfl, j1, j2⟩), .inr (.inr ⟨de, ge', we, rfl, j3, j4⟩), fun j hj => by simp [locV] at hj; omega, fun j hj => by simp [locV] at hj; omega⟩
    ·obtain ⟨rfl, rfl, gv, ev, hvars, rgv, rev, lgv, lev⟩ := hq
     obtain ⟨vars2, scr2⟩ := st'
     simp only at hvars
     subst hvars
     try simp only [tq]
     repeat apply wS
     refine wR (by simp; constructor <;> rfl) ?_
     try simp only [tq]
     repeat apply wS
     refine wC (t := false) (by simp) ?_
     simp only [iq]
     refine W_skip ?_
     try simp only [tq]
     repeat apply wS
     refine wR (by simp [sliceCells, repZero, chunk, fillV]; constructor <;> rfl) ?_
     try simp only [tq]
     repeat apply wS
     refine wR (by simp; constructor <;> rfl) ?_
     try simp only [tq]
     repeat apply wS
     refine W_block ?_
     obtain ⟨w, hw⟩ : ∃ w, foldT (treeS K rules text goals f) p.1 p.2 out [] = some w := by
      cases hq : foldT (treeS K rules text goals f) p.1 p.2 out [] with
      | none => rw [hq] at h; cases h
      | some w => exact ⟨w, rfl⟩
     rw [hw] at h
     have hacc0 : Acc τ' ov out lo ls := hacc.keep hFs.1 fun j hj => hFs.2 j (hacc.lt hj).2 (by simp)
     have lss := lt_of_get hrs
     have lsF := hFs.1
     have acc1 : Acc (τ' ++ [V.Obj.cells [] 0 0]) ov out lo ls := hacc0.keep (by simp) fun j hj => List.getElem?_append_left (hacc0.lt hj).2
     refine W_loop (I := fun m st τ => ∃ j out' ks ov' ls' kg, m = p.1.length - j ∧ j ≤ p.1.length ∧ foldT (treeS K rules text goals f) (p.1.drop j) (p.2.drop j) out' ks = some w ∧ ks.length = j ∧ out'.length ≤ 60 ∧ st.vars = [(0, .ptr r 0 0 4), (1, .t (I at_)), (2, .t (I to)), (6, .t (I 0)), (7, .ptr σ.length 0 0 5), (8, .t (I rank)), (9, .ptr (σ.length + 1) 0 0 3), (10, .t (I i)), (11, gv), (12, ev), (13, .t (B true)), (14, .sl τ'.length kg 0 ks.length 1), (15, .t (I j))] ∧ τ[τ'.length]? = some (.cells (ints ks) kg 0) ∧ τ[r]? = some (mkOb rules text rows ov') ∧ Acc τ ov' out' lo ls' ∧ τ'.length + 1 ≤ τ.length ∧ (∀ i, i < τ'.length → i ≠ r → i ∉ ls → τ[i]? = τ'[i]?) ∧ ∀ y ∈ ls', y ∈ ls ∨ τ'.length + 1 ≤ y) ?_ p.1.length _ _ ⟨0, out, [], ov, ls, 0, rfl, Nat.zero_le _, hw, rfl, h60, by simp, by rw [X.getA]; rfl, by rw [List.getElem?_append_left lss]; exact hrs, acc1, by simp, fun i hi _ _ => List.getElem?_append_left hi, fun y hy => .inl hy⟩
     clear hw acc1
     rintro m ⟨vars, scr⟩ τ5 ⟨j, out', ks, ov', ls', kg, rfl, hj, hw, hks, h60', hv, hkc, hr5, hacc5, hl5, hfr5, hls5⟩
     simp only at hv
     subst hv
     have hold : ∀ y ∈ ls, y < σ.length := fun y hy => (hacc.lt hy).2
     have hrls : ∀ {L : List Nat}, (∀ y ∈ L, y ∈ ls ∨ τ'.length + 1 ≤ y) → r ∉ L := fun hL hm => by
      rcases hL r hm with q | q
      ·have := (hacc.lt q).1; omega
      ·omega
     have own5 : ∀ i, σ.length ≤ i → i < τ'.length → τ5[i]? = τ'[i]? := fun i h1 h2 => hfr5 i h2 (by omega) (fun hm => by have := hold i hm; omega)
     have hb75 : τ5[σ.length]? = some (.cells [V.t (I g.rule), .t gx, V.t (I g.from_), .t ge, .t gk] 0 0) := by rw [own5 _ (Nat.le_refl _) (by have := lt_of_get hb7s; omega)]; exact hb7s
     have rgv5 : X.Rd τ5 gv p.1 := rgv.keep fun j hj => own5 j (by have := lgv j hj; omega) (rgv.locs j hj)
     have rev5 : X.Rd τ5 ev p.2 := rev.keep fun j hj => own5 j (by have := lev j hj; omega) (rev.locs j hj)
     repeat apply wS
     refine wR (by simp [rgv5.len]; constructor <;> rfl) ?_
     try simp only [tq]
     by_cases c2 : j < p.1.length
     ·repeat apply wS
      refine wC (t := true) (by simp [c2]) ?_
      simp only [iq]
      refine W_skip ?_
      try simp only [tq]
      repeat apply wS
      refine W_block ?_
      obtain ⟨gn, hgn⟩ := get_of_lt c2
      obtain ⟨en, hen2⟩ := get_of_lt (show j < p.2.length by omega)
      rw [X.drop_get hgn, X.drop_get hen2] at hw
      simp only [foldT] at hw
      obtain ⟨q1, hq1, hq1'⟩ := rgv5.idx hgn
      obtain ⟨q2, hq2, hq2'⟩ := rev5.idx hen2
      split at hw
      ·cases hw
      ·rename_i hrec
       simp only [Option.some.injEq] at hw
       subst hw
       simp only [Option.some.injEq] at h
       subst h
       obtain ⟨v3, σ3, u1, u2, u3, u4⟩ := ih gn en out' τ5 ov' ls' none hacc5 (by omega) h60' hr5 hrec
       subst u2
       repeat apply wS
       refine wR (by simp [hq1, hq1', hq2, hq2', u1]; constructor <;> rfl) ?_
       try simp only [tq]
       repeat apply wS
       refine wR (by simp; constructor <;> rfl) ?_
       try simp only [tq]
       repeat apply wS
       refine wC (t := true) (by simp) ?_
       simp only [iq]
       repeat apply wS
       refine wR (by simp; constructor <;> rfl) ?_
       try simp only [tq]
       refine W_ret ?_
       try simp only [tq]
       exact ⟨trivial, _, (by simp [Tryz.f17]), rfl, by omega, fun j hj hjr => by rw [u4 j hj hjr, hfr5 j (by omega) hjr (fun hm => by have := (hacc.lt hm).1; omega), hFs.2 j (by omega) (by simp)]⟩
      ·rename_i z hrec
       obtain ⟨v3, σ3, u1, u2, u3, u4, ov3, ls3, u5, u6, u7, u8, u9, u10⟩ := ih gn en out' τ5 ov' ls' (some z) hacc5 (by omega) h60' hr5 hrec
       subst u2
       have hkn : τ'.length ∉ ls' := fun hm => by
        rcases hls5 _ hm with q | q
        ·have := hold _ q; omega
        ·omega
       have hkc3 : σ3[τ'.length]? = some (.cells (ints ks) kg 0) := by rw [u9 _ (by omega) (by omega) hkn]; exact hkc
       have hbn : (ks.length + 1) * 8 ≤ 140737488355328 := by have := k5; omega
       have hlk := lt_of_get hkc3
       repeat apply wS
       refine wR (by simp [hq1, hq1', hq2, hq2', u1]; constructor <;> rfl) ?_
       try simp only [tq]
       repeat apply wS
       refine wR (by simp; constructor <;> rfl) ?_
       try simp only [tq]
       repeat apply wS
       refine wC (t := false) (by simp [show ¬ ((z.2 : Int) < 0) by omega]) ?_
       simp only [iq]
       refine W_skip ?_
       try simp only [tq]
       repeat apply wS
       refine wR (by simp [sliceCells, repZero, chunk, fillV, setRange, appendV, srcCells, rowCells, hkc3, hbn]; constructor <;> rfl) ?_
       try simp only [tq]
       repeat apply wS
       refine wR (by simp [IntWalk.i64_in ((j : Int) + 1) (by omega)]; constructor <;> rfl) ?_
       try simp only [tq]
       have hls3 : ∀ y ∈ ls3, y ∈ ls ∨ τ'.length + 1 ≤ y := fun y hy => by
        rcases u10 y hy with q | q
        ·exact hls5 y q
        ·exact .inr (by omega)
       have hkn3 : τ'.length ∉ ls3 := fun hm => by
        rcases hls3 _ hm with q | q
        ·have := hold _ q; omega
        ·omega
       refine ⟨p.1.length - (j + 1), by omega, j + 1, z.1, ks ++ [(z.2 : Int)], ov3, ls3, kg + 1, rfl, c2, hw, by simp; omega, u4, by simp, ?_, ?_, u6.keep (by simp) (fun i hi => List.getElem?_set_ne (fun e => hkn3 (by rw [e]; exact hi))), by simp; omega, fun i h1 h2 h3 => ?_, hls3⟩
       ·rw [List.getElem?_set_self hlk]; simp [ints]
       ·rw [List.getElem?_set_ne (by omega)]; exact u5
       ·rw [List.getElem?_set_ne (by omega), u9 i (by omega) h2 (fun hm => ?_)]
        ·exact hfr5 i h1 h2 h3
        ·rcases hls5 i hm with q | q
         ·exact h3 q
         ·omega
     ·repeat apply wS
      refine wC (t := false) (by simp [c2]) ?_
      simp only [iq]
      repeat apply wS
      refine W_exit ?_
      try simp only [tq, if_true]
      have : j = p.1.length := by omega
      subst this
      rw [List.drop_length] at hw
      simp only [foldT, Option.some.injEq] at hw
      subst hw
      simp only at h
      have l7 := lt_of_get hb75
      obtain ⟨ga, hga⟩ := appArgs igx hb.2 τ5.length
      obtain ⟨m, hm⟩ : ∃ m : Nd, m = { rule := g.rule, alt := i, args := ⟨τ5.length, ga, zI g.args⟩, fr := g.from_, to := to, kids := ⟨τ'.length, kg, ks⟩ } := ⟨_, rfl⟩
      have hmcs : m.cs = [.t (I g.rule), .t (I i), .sl τ5.length ga 0 g.args.length 1, .t (I g.from_), .t (I to), .sl τ'.length kg 0 ks.length 1] := by
       rw [hm]; simp [Nd.cs, Sl.v, zI_len]
      obtain ⟨τ6, hτ6⟩ : ∃ τ6, τ6 = τ5 ++ [.cells (ints (zI g.args)) ga 0, .cells [.t (I g.rule), .t (I i), .sl τ5.length ga 0 g.args.length 1, .t (I g.from_), .t (I to), .sl τ'.length kg 0 ks.length 1] 0 0] := ⟨_, rfl⟩
      have hlen6 : τ6.length = τ5.length + 2 := by rw [hτ6]; simp
      have old6 : ∀ i, i < τ5.length → τ6[i]? = τ5[i]? := fun i h1 => by rw [hτ6]; exact List.getElem?_append_left h1
      have hacc6 : Acc τ6 ov' out' lo ls' := hacc5.keep (by omega) fun i hi => old6 i (hacc5.lt hi).2
      have hmin : m.In τ6 := by
       subst hm
       exact ⟨⟨0, Nat.zero_le _, by rw [hτ6, X.getA]; rfl⟩, ⟨0, Nat.zero_le _, (old6 τ'.length (by omega)).trans hkc⟩⟩
      have hka : m.args.loc = τ5.length := by rw [hm]
      have hkk : m.kids.loc = τ'.length := by rw [hm]
      have hkn : τ'.length ∉ ls' := fun hm => by
       rcases hls5 _ hm with q | q
       ·have := hold _ q; omega
       ·omega
      obtain ⟨v4, σ4, ls4, ea, el, eacc, els, efr⟩ := appendN hacc6 (q := τ5.length + 1) (m := m) (by rw [hτ6, X.getB, hmcs]; rfl) hmin (by omega)
       (by omega) (by omega) (by omega)
       (by rw [hka]; intro h; have := (hacc5.lt h).2; omega) (by rw [hkk]; exact hkn) h60'
      obtain ⟨t4, rfl⟩ := eacc.isSl (by simp)
      have hrl5 := hrls hls5
      have lr5 := lt_of_get hr5
      have hp4 : σ4[r]? = some (mkOb rules text rows ov') := by
       rw [efr r (by omega) hrl5, old6 r lr5, hr5]
      have hx4 : σ4[σ.length]? = some (.cells [V.t (I g.rule), .t gx, V.t (I g.from_), .t ge, .t gk] 0 0) := by
       rw [efr _ (by omega) (fun hm => by rcases hls5 _ hm with q | q; · have := hold _ q; omega
                                          ·omega), old6 _ l7, hb75]
      have hmn : m.n = ⟨(g.rule : Int), (i : Int), zI g.args, (g.from_ : Int), (to : Int), ks⟩ := by rw [hm]
      rw [hmn] at eacc
      rw [hτ6] at ea
      have lr4 := lt_of_get hp4
      have hp5 : ∀ X, (σ4.set r X)[r]? = some X := fun X => List.getElem?_set_self lr4
      have hx5 : ∀ X, (σ4.set r X)[σ.length]? = some (.cells [V.t (I g.rule), .t gx, V.t (I g.from_), .t ge, .t gk] 0 0) := fun X => by rw [List.getElem?_set_ne (by omega), hx4]
      have xa : ∀ r, (τ5 ++ r)[σ.length]? = some (.cells [V.t (I g.rule), .t gx, V.t (I g.from_), .t ge, .t gk] 0 0) := fun r => by rw [List.getElem?_append_left l7, hb75]
      have pa : ∀ r', (τ5 ++ r')[r]? = some (mkOb rules text rows ov') := fun r' => by rw [List.getElem?_append_left lr5, hr5]
      simp only [mkOb] at hp4 pa hr5
      repeat apply wS
      refine W_regD (fun b => memN 4 (stops b 21)) (by kernel_rfl) rfl rfl (fun b hb => by
       simp (maxDischargeDepth := 12) [runOpsD, loadOf, chkH, live_all, okL_live, okL_nil, okL_cons, okAt_load, hb, hb75, hr5, hga, buildV, fieldSizes, sliceCells, fillV, repZero, List.range, List.range.loop, setRange, ea, hp4, hx4, hp5, hx5, xa, pa, setRange1]
       constructor <;> rfl) ?_
      try simp only [tq]
      repeat apply wS
      refine wR (by simp [hp5, eacc.len]; constructor <;> rfl) ?_
      try simp only [tq]
      have hls4 : ∀ y ∈ ls4, y ∈ ls ∨ τ'.length ≤ y := fun y hy => by
       rcases els y hy with q | q | q | q
       ·rcases hls5 y q with z | z
        ·exact .inl z
        ·exact .inr (by omega)
       ·exact .inr (by omega)
       ·exact .inr (by omega)
       ·exact .inr (by omega)
      by_cases c6 : out'.length + 1 ≤ 60
      ·rw [if_pos c6] at h
       simp only [Option.some.injEq] at h
       subst h
       repeat apply wS
       refine wC (t := false) (by simp [show ¬ (60 : Int) < (out'.length : Int) + 1 by omega]) ?_
       simp only [iq]
       refine W_skip ?_
       try simp only [tq]
       repeat apply wS
       refine wR (by simp [hp5, eacc.len, IntWalk.i64_in (out'.length : Int) (by omega)]; constructor <;> rfl) ?_
       try simp only [tq]
       refine W_ret ?_
       try simp only [tq]
       have hrl4 : r ∉ ls4 := fun hm => by
        rcases hls4 r hm with q | q
        ·have := (hacc.lt q).1; omega
        ·omega
       refine ⟨trivial, _, (by simp [Tryz.f17]), rfl, by simp, by simp; omega, t4.sl, ls4, hp5 _, eacc.keep (by simp) (fun i hi => List.getElem?_set_ne (fun e => hrl4 (by rw [e]; exact hi))), hrl4, by simp; omega, fun i h1 h2 h3 => ?_, fun y hy => by
        rcases hls4 y hy with q | q
        ·exact .inl q
        ·exact .inr (by omega)⟩
       rw [List.getElem?_set_ne (Ne.symm h2), efr i (by omega) (fun hm => by
        rcases hls5 i hm with q | q
        ·exact h3 q
        ·omega), old6 i (by omega), hfr5 i (by omega) h2 h3, hFs.2 i h1 (by simp)]
      ·rw [if_neg c6] at h
       simp only [Option.some.injEq] at h
       subst h
       repeat apply wS
       refine wC (t := true) (by simp [show (60 : Int) < (out'.length : Int) + 1 by omega]) ?_
       simp only [iq]
       repeat apply wS
       refine wR (by simp; constructor <;> rfl) ?_
       try simp only [tq]
       refine W_ret ?_
       try simp only [tq]
       exact ⟨trivial, _, (by simp [Tryz.f17]), rfl, by simp; omega, fun j hj hjr => by
        rw [List.getElem?_set_ne (Ne.symm hjr), efr j (by omega) (fun hm => by have := (hacc5.lt hm).1; omega), old6 j (by omega), hfr5 j (by omega) hjr (fun hm => by have := (hacc.lt hm).1; omega), hFs.2 j (by omega) (by simp)]⟩
  ·repeat apply wS
   refine wR (by simp [hb9t, hsy.len, show ¬ (i : Int) < al.length by omega]; constructor <;> rfl) ?_
   try simp only [tq]
   repeat apply wS
   refine wC (t := false) (by simp) ?_
   simp only [iq]
   repeat apply wS
   refine W_exit ?_
   try simp only [tq, if_true]
   have : i = al.length := by omega
   subst this
   rw [List.drop_length] at h
   simp only [altT, Option.some.injEq] at h
   subst h
   repeat apply wS
   refine wR (by simp; constructor <;> rfl) ?_
   try simp only [tq]
   refine W_ret ?_
   try simp only [tq]
   exact ⟨trivial, _, (by simp [Tryz.f17]), rfl, by omega, fun j hj _ => hFt.2 j (by omega) (by simp)⟩
end Y
namespace Y
open X
attribute [-simp] lenV idxV setRange getElem?_pos
/-! ### FirstTree -/
def firstT : Option (List N × Nat) → T
 | none => .tup [.agg [.nils], B false]
 | some p => .tup [.agg [Ls p.1], B true]
theorem first_none {rules : List T} {tx nm ax : T} {fr : Nat} (hr : ∀ σ, LD S 16 [.t (.agg [.list rules]), .t tx, .t nm, .t ax, .t (I fr)] σ = some (.t (.tup [.agg [.nils], B false]), σ)) (to : Nat) (σ : Store) :
  LD S 6 [.t (.agg [.list rules]), .t tx, .t nm, .t ax, .t (I fr), .t (I to)] σ = some (.t (firstT none), σ) := by
 suffices hh : ∃ v σ', LV S 6 [.t (.agg [.list rules]), .t tx, .t nm, .t ax, .t (I fr), .t (I to)] [] = some (v, σ') ∧ frz 40 σ' v = some (firstT none) by
  obtain ⟨v, σ', h1, h2⟩ := hh
  exact LD_pure (A := A6) (args := [.t (.agg [.list rules]), .t tx, .t nm, .t ax, .t (I fr), .t (I to)]) rfl rfl rfl h1 h2 σ
 refine LV_bodyX (A := A6) rfl Tryz.func6 rfl ?_
 repeat apply wS
 refine wR (by simp; constructor <;> rfl) ?_
 try simp only [tq]
 repeat apply wS
 refine wR (by simp [hr, fillV, setRange]; constructor <;> rfl) ?_
 try simp only [tq]
 repeat apply wS
 refine wR (by simp; constructor <;> rfl) ?_
 try simp only [tq]
 repeat apply wS
 refine wC (t := true) (by simp) ?_
 simp only [iq]
 repeat apply wS
 refine wR (by simp [buildV, fieldSizes, fillV, repZero, setRange]; constructor <;> rfl) ?_
 try simp only [tq]
 refine W_ret ?_
 try simp only [tq]
 exact ⟨trivial, _, (by simp [Tryz.f6]; rfl), rfl⟩
theorem first_some {K : Kn} {rules : List T} {text : List Nat} (hK : KnOk K (.list rules) text) {goals : List Gl} {rows : List T} (hg : GRows goals rows) (hog : OkG goals) (hgl : goals.length ≤ 1000) (hends : ∀ g ∈ goals, g.ends.length ≤ 1000 ∧ g.ranks.length = g.ends.length) (htl : text.length ≤ 1000)
  {nm ax : T} {fr : Nat} (hr : ∀ σ, LD S 16 [.t (.agg [.list rules]), .t (.str text), .t nm, .t ax, .t (I fr)] σ = some (.t (.tup [.agg [.list rows], B true]), σ)) {f to : Nat} {o : Option (List N × Nat)} (h : treeS K rules text goals f 0 to [] = some o) (σ : Store) :
  LD S 6 [.t (.agg [.list rules]), .t (.str text), .t nm, .t ax, .t (I fr), .t (I to)] σ = some (.t (firstT o), σ) := by
 suffices hh : ∃ v σ', LV S 6 [.t (.agg [.list rules]), .t (.str text), .t nm, .t ax, .t (I fr), .t (I to)] [] = some (v, σ') ∧ frz 40 σ' v = some (firstT o) by
  obtain ⟨v, σ', h1, h2⟩ := hh
  exact LD_pure (A := A6) (args := [.t (.agg [.list rules]), .t (.str text), .t nm, .t ax, .t (I fr), .t (I to)]) rfl rfl rfl h1 h2 σ
 refine LV_bodyX (A := A6) rfl Tryz.func6 rfl ?_
 obtain ⟨v, σ4, u1, u2⟩ := tree_ld hK hg hog hgl hends htl (r := 3) (lo := 4) (by omega) f 0 to [] [.cells [.t (.list rules)] 0 0, .cells [.t .nils] 0 0, .cells [.t (.list rows)] 0 0, mkOb rules text rows (.t .nils)] (.t .nils) [] o (.inl ⟨rfl, rfl, rfl⟩) (by simp) (by simp) rfl h
 simp only [mkOb] at u1
 have u1' : LD S 17 [.ptr 3 0 0 4, .t (I 0), .t (I to)] [.cells [.t (.list rules)] 0 0, .cells [.t .nils] 0 0, .cells [.t (.list rows)] 0 0, .cells [.t (.list rules), .t (.str text), .t (.list rows), .t .nils] 0 0] = some (v, σ4) := u1
 repeat apply wS
 refine wR (by simp; constructor <;> rfl) ?_
 try simp only [tq]
 repeat apply wS
 refine wR (by simp [hr, fillV, setRange]; constructor <;> rfl) ?_
 try simp only [tq]
 repeat apply wS
 refine wR (by simp; constructor <;> rfl) ?_
 try simp only [tq]
 repeat apply wS
 refine wC (t := false) (by simp) ?_
 simp only [iq]
 refine W_skip ?_
 try simp only [tq]
 repeat apply wS
 refine wR (by simp [buildV, fieldSizes, fillV, repZero, setRange]; constructor <;> rfl) ?_
 try simp only [tq]
 cases o with
 | none =>
  obtain ⟨rfl, u3, u4⟩ := u2
  have c1 : σ4[1]? = some (.cells [.t .nils] 0 0) := by rw [u4 1 (by omega) (by omega)]; rfl
  have l1 := lt_of_get c1
  have hs : ∀ o, (σ4.set 1 o)[1]? = some o := fun o => List.getElem?_set_self l1
  repeat apply wS
  refine wR (by simp [u1']; constructor <;> rfl) ?_
  try simp only [tq]
  repeat apply wS
  refine wC (t := true) (by simp) ?_
  simp only [iq]
  repeat apply wS
  refine wR (by simp [c1, buildV, fieldSizes, fillV, repZero, setRange]; constructor <;> rfl) ?_
  try simp only [tq]
  refine W_ret ?_
  try simp only [tq]
  exact ⟨trivial, .t (firstT none), (by simp [Tryz.f6, hs, firstT]), rfl⟩
 | some p =>
  obtain ⟨rfl, u3, u4, ov, ls, u5, u6, u7, u8, u9, u10⟩ := u2
  have c1 : σ4[1]? = some (.cells [.t .nils] 0 0) := by rw [u9 1 (by simp) (by omega) (by simp)]; rfl
  have l1 := lt_of_get c1
  have hs : ∀ o, (σ4.set 1 o)[1]? = some o := fun o => List.getElem?_set_self l1
  repeat apply wS
  refine wR (by simp [u1']; constructor <;> rfl) ?_
  try simp only [tq]
  repeat apply wS
  refine wC (t := false) (by simp [show ¬ ((p.2 : Int) < 0) by omega]) ?_
  simp only [iq]
  refine W_skip ?_
  try simp only [tq]
  simp only [mkOb] at u5
  obtain ⟨t, rfl⟩ := u6.isSl (by intro e; rw [e] at u3; simp at u3)
  repeat apply wS
  refine wR (by simp [u5, c1, buildV, fieldSizes, fillV, repZero, setRange, setRange1]; constructor <;> rfl) ?_
  try simp only [tq]
  refine W_ret ?_
  try simp only [tq]
  have u11 : Acc (σ4.set 1 (.cells [t.sl] 0 0)) t.sl p.1 4 ls := u6.keep (by simp) (fun i hi => List.getElem?_set_ne (fun e => by have := (u6.lt hi).1; omega))
  refine ⟨trivial, .tup [.agg [t.sl], .t (B true)], (by simp [Tryz.f6, hs]), ?_⟩
  rcases u11 with ⟨e, _⟩ | ⟨t', e, _, hin, _, _, hmap⟩
  ·cases e
  ·have h38 : Go.V.frz (35 + 3) (σ4.set 1 (.cells [t'.sl] 0 0)) t'.sl = some (Ls (t'.nodes.map Nd.n)) := by
    rw [e] at hin
    exact hin.frz 35
   rw [e]
   rw [hmap] at h38
   have h39 : Go.V.frz 39 (σ4.set 1 (.cells [t'.sl] 0 0)) (.agg [t'.sl]) = some (.agg [Ls p.1]) := by
    rw [frz_agg 38, frzs, h38]; rfl
   rw [Go.V.frz, frzs, h39]
   rfl
end Y
namespace Y
open X
attribute [-simp] lenV idxV setRange getElem?_pos
/-! ### A right node -/
theorem Lz (al : List Nat) : L (zI al) = .list (rows1 al) := by simp [zI, rows1]
def walkN (K : Kn) (text : List Nat) (nodes : List N) : List T → At → List Int → Nat → Prop
 | [], a, ks, to => ks = [] ∧ a.1 = to
 | x :: r, a, ks, to => ∃ (kind : Nat) (nm : List Nat) (ax : T) (bs : List Nat), x = .agg [I kind, .str nm, ax, .str bs] ∧
     ((kind = 3 ∧ ∃ al ru k kr y e env', K.args ax a.2 a.1 = some (some al) ∧ al.length ≤ 1000 ∧ K.ruleAt nm = some ru ∧ ks = ((k : Nat) : Int) :: kr ∧ nodes[k]? = some y ∧ y.rule = ((ru : Nat) : Int) ∧ y.args = zI al ∧ y.fr = ((a.1 : Nat) : Int) ∧ y.to = ((e : Nat) : Int) ∧ a.1 ≤ e ∧ e ≤ text.length ∧ K.bind a.2 bs ((text.take e).drop a.1) = some env' ∧ walkN K text nodes r (e, env') kr to) ∨
      (¬ kind = 3 ∧ ∃ p, K.plain x a.2 a.1 = some (some p) ∧ walkN K text nodes r (p, a.2) ks to))
structure NodeR (K : Kn) (rules : List T) (text : List Nat) (nodes : List N) (i : Nat) (x : N) (ru alt : Nat) (al : List Nat) (fr to : Nat) (nm ps az xs : T) (pl alts syms : List T) (env : X.Env) : Prop where
 get : nodes[i]? = some x
 shape : x.rule = ru ∧ x.alt = alt ∧ x.args = zI al ∧ x.fr = fr ∧ x.to = to
 rule : rules[ru]? = some (.agg [nm, ps, az])
 params : symsL ps = some pl ∧ pl.length = al.length
 argsOk : (∀ a ∈ al, a ≤ 99) ∧ al.length ≤ 1000
 alts_ : symsL az = some alts ∧ alts[alt]? = some (.agg [xs]) ∧ alts.length ≤ 1000
 syms_ : symsL xs = some syms ∧ syms.length ≤ 1000
 place : fr ≤ text.length ∧ to ≤ text.length
 kids : ∀ k ∈ x.kids, 0 ≤ k ∧ k < (i : Int)
 env_ : K.env0 ps al = some env
 walk : walkN K text nodes syms (fr, env) x.kids to
def NodeOk (K : Kn) (rules : List T) (text : List Nat) (nodes : List N) (i : Nat) : Prop := ∃ x ru alt al fr to nm ps az xs pl alts syms env, NodeR K rules text nodes i x ru alt al fr to nm ps az xs pl alts syms env
theorem inT_ld {n lo hi : Int} (h1 : lo ≤ n) (h2 : n ≤ hi) (σ : Store) : LD S 22 [.t (I n), .t (I lo), .t (I hi)] σ = some (.t (B true), σ) := by
 have := X.in_ld n lo hi σ
 rw [show inF n lo hi = true by simp [inF, h1, h2]] at this
 exact this
theorem node_ld {K : Kn} {rules : List T} {text : List Nat} (hK : KnOk K (.list rules) text) (hrl : rules.length ≤ 1000) (htl : text.length ≤ 1000) {nodes : List N} (hnl : nodes.length ≤ 1000) {i : Nat} (H : NodeOk K rules text nodes i) (hkl : ∀ x ∈ nodes, x.kids.length ≤ 1000) (σ : Store) :
  LD S 23 [.t (.agg [.list rules]), .t (.str text), .t (encT nodes), .t (I i)] σ = some (.t (B true), σ) := by
 suffices hh : ∃ σ', LV S 23 [.t (.agg [.list rules]), .t (.str text), .t (encT nodes), .t (I i)] [] = some (.t (B true), σ') by
  obtain ⟨σ', h⟩ := hh
  exact LD_pure (A := A23) (args := [.t (.agg [.list rules]), .t (.str text), .t (encT nodes), .t (I i)]) (v := .t (B true)) rfl rfl rfl h rfl σ
 obtain ⟨x, ru, alt, al, fr, to, nm, ps, az, xs, pl, alts, syms, env, H⟩ := H
 obtain ⟨sh1, sh2, sh3, sh4, sh5⟩ := H.shape
 obtain ⟨q1, q2⟩ := H.params
 obtain ⟨q3, q4⟩ := H.argsOk
 obtain ⟨q5, q6, q11⟩ := H.alts_
 obtain ⟨q7, q8⟩ := H.syms_
 obtain ⟨q9, q10⟩ := H.place
 have hps := symsL_eq q1
 have haz := symsL_eq q5
 have hxs := symsL_eq q7
 have hilt := lt_of_get H.get
 have hrlt := lt_of_get H.rule
 have halt := lt_of_get q6
 have hkx := hkl x (List.mem_of_getElem? H.get)
 obtain ⟨hel, hen⟩ := hK.env0 _ _ _ H.env_
 have hen' := hen
 have pfe : S.pf 40 = false := rfl
 have hlp : ∀ (σ : Store) (e : TypeId), lenV σ (.slice e) (.t ps) = some (al.length : Int) := fun σ e => by rw [hps.len, q2]
 have i1 := fun σ => inT_ld (n := (ru : Int)) (lo := 0) (hi := (rules.length : Int) - 1) (by omega) (by omega) σ
 have i2 := fun σ => inT_ld (n := (alt : Int)) (lo := 0) (hi := (alts.length : Int) - 1) (by omega) (by omega) σ
 have i3 := fun σ => inT_ld (n := (fr : Int)) (lo := 0) (hi := (text.length : Int)) (by omega) (by omega) σ
 have i4 := fun σ => inT_ld (n := (to : Int)) (lo := 0) (hi := (text.length : Int)) (by omega) (by omega) σ
 have hget : (nodes.map encN)[i]? = some (.agg [I ru, I alt, L (zI al), I fr, I to, L x.kids]) := by
  rw [List.getElem?_map, H.get]
  simp [encN, encC, sh1, sh2, sh3, sh4, sh5]
 have w1 := IntWalk.i64_in ((rules.length : Int) - 1) (by omega)
 have w2 := IntWalk.i64_in ((alts.length : Int) - 1) (by omega)
 refine LV_bodyE (A := A23) rfl Tryz.func23 rfl ?_
 repeat apply wS
 refine wR (by simp; constructor <;> rfl) ?_
 try simp only [tq]
 repeat apply wS
 refine wR (by simp [hget, fillV, setRange]; constructor <;> rfl) ?_
 try simp only [tq]
 have hrule := H.rule
 repeat apply wS
 refine wR (by simp [hrule, haz.len, hlp, i1, i2, i3, i4, w1, w2, zI_len]; constructor <;> rfl) ?_
 try simp only [tq]
 repeat apply wS
 refine wC (t := false) (by simp) ?_
 simp only [iq]
 refine W_skip ?_
 try simp only [tq]
 repeat apply wS
 refine wR (by simp; constructor <;> rfl) ?_
 try simp only [tq]
 repeat apply wS
 refine W_block ?_
 refine W_loop (I := fun m st τ => ∃ k, m = al.length - k ∧ k ≤ al.length ∧ st.vars = [(0, .t (.agg [.list rules])), (1, .t (.str text)), (2, .t (encT nodes)), (3, .t (I i)), (4, .ptr 0 0 0 1), (6, .ptr 1 0 0 1), (8, .t (B false)), (9, .ptr 2 0 0 6), (10, .t (I k))] ∧ τ = [.cells [.t (.list rules)] 0 0, .cells [.t (Ls nodes)] 0 0, .cells [.t (I ru), .t (I alt), .t (L (zI al)), .t (I fr), .t (I to), .t (L x.kids)] 0 0]) ?_ al.length _ _ ⟨0, rfl, Nat.zero_le _, by simp, rfl⟩
 rintro m ⟨vars, scr⟩ τ ⟨k, rfl, hk, hv, rfl⟩
 simp only at hv
 subst hv
 repeat apply wS
 refine wR (by simp [zI_len]; constructor <;> rfl) ?_
 try simp only [tq]
 by_cases c1 : k < al.length
 ·repeat apply wS
  refine wC (t := true) (by simp [c1]) ?_
  simp only [iq]
  refine W_skip ?_
  try simp only [tq]
  repeat apply wS
  refine W_block ?_
  obtain ⟨a, hka⟩ := X.get_of_lt c1
  have hza : (zI al)[k]? = some (a : Int) := by simp [zI, hka]
  have i5 := fun σ => inT_ld (n := (a : Int)) (lo := 0) (hi := 99) (by omega) (by have := q3 a (List.mem_of_getElem? hka); omega) σ
  repeat apply wS
  refine wR (by simp [hza, i5]; constructor <;> rfl) ?_
  try simp only [tq]
  repeat apply wS
  refine wC (t := false) (by simp) ?_
  simp only [iq]
  refine W_skip ?_
  try simp only [tq]
  repeat apply wS
  refine wR (by simp [IntWalk.i64_in ((k : Int) + 1) (by omega)]; constructor <;> rfl) ?_
  try simp only [tq]
  exact ⟨al.length - (k + 1), by omega, k + 1, rfl, c1, by simp, trivial⟩
 ·repeat apply wS
  refine wC (t := false) (by simp [c1]) ?_
  simp only [iq]
  repeat apply wS
  refine W_exit ?_
  try simp only [tq, if_true]
  repeat apply wS
  refine wR (by simp; constructor <;> rfl) ?_
  try simp only [tq]
  repeat apply wS
  refine W_block ?_
  refine W_loop (I := fun m st τ => ∃ k, m = x.kids.length - k ∧ k ≤ x.kids.length ∧ st.vars = [(0, .t (.agg [.list rules])), (1, .t (.str text)), (2, .t (encT nodes)), (3, .t (I i)), (4, .ptr 0 0 0 1), (6, .ptr 1 0 0 1), (8, .t (B false)), (9, .ptr 2 0 0 6), (11, .t (I k))] ∧ τ = [.cells [.t (.list rules)] 0 0, .cells [.t (Ls nodes)] 0 0, .cells [.t (I ru), .t (I alt), .t (L (zI al)), .t (I fr), .t (I to), .t (L x.kids)] 0 0]) ?_ x.kids.length _ _ ⟨0, rfl, Nat.zero_le _, by simp, rfl⟩
  rintro m ⟨vars, scr⟩ τ ⟨k, rfl, hk, hv, rfl⟩
  simp only at hv
  subst hv
  repeat apply wS
  refine wR (by simp; constructor <;> rfl) ?_
  try simp only [tq]
  by_cases c2 : k < x.kids.length
  ·repeat apply wS
   refine wC (t := true) (by simp [c2]) ?_
   simp only [iq]
   refine W_skip ?_
   try simp only [tq]
   repeat apply wS
   refine W_block ?_
   obtain ⟨a, hka⟩ := X.get_of_lt c2
   have hkb := H.kids a (List.mem_of_getElem? hka)
   have i5 := fun σ => inT_ld (n := a) (lo := 0) (hi := (i : Int) - 1) (by omega) (by omega) σ
   repeat apply wS
   refine wR (by simp [hka, i5, IntWalk.i64_in ((i : Int) - 1) (by omega)]; constructor <;> rfl) ?_
   try simp only [tq]
   repeat apply wS
   refine wC (t := false) (by simp) ?_
   simp only [iq]
   refine W_skip ?_
   try simp only [tq]
   repeat apply wS
   refine wR (by simp [IntWalk.i64_in ((k : Int) + 1) (by omega)]; constructor <;> rfl) ?_
   try simp only [tq]
   exact ⟨x.kids.length - (k + 1), by omega, k + 1, rfl, c2, by simp, trivial⟩
  ·repeat apply wS
   refine wC (t := false) (by simp [c2]) ?_
   simp only [iq]
   repeat apply wS
   refine W_exit ?_
   try simp only [tq, if_true]
   have hRd : ∀ τ, X.Rd τ (.t (L (zI al))) al := fun τ => .inr (.inl (by rw [Lz]))
   have hen2 := fun τ => hen τ _ (hRd τ)
   repeat apply wS
   refine W_regD (fun _ => true) rfl rfl rfl (fun b hb => by
    simp (maxDischargeDepth := 12) [runOpsD, loadOf, chkH, live_all, okL_live, okL_nil, okL_cons, okAt_load, hrule, hen2, buildAt, pfe, fillV, setRange, setRange1]
    constructor <;> rfl) ?_
   try simp only [tq]
   repeat apply wS
   refine wR (by simp [hrule, haz.idxk q6 (n := 1) rfl]; constructor <;> rfl) ?_
   try simp only [tq]
   repeat apply wS
   refine wR (by simp; constructor <;> rfl) ?_
   try simp only [tq]
   repeat apply wS
   refine wR (by simp; constructor <;> rfl) ?_
   try simp only [tq]
   repeat apply wS
   refine W_block ?_
   refine W_loop (I := fun m st τ => ∃ k a kid, m = syms.length - k ∧ k ≤ syms.length ∧ kid ≤ x.kids.length ∧ walkN K text nodes (syms.drop k) a (x.kids.drop kid) to ∧ st.vars = [(0, .t (.agg [.list rules])), (1, .t (.str text)), (2, .t (encT nodes)), (3, .t (I i)), (4, .ptr 0 0 0 1), (6, .ptr 1 0 0 1), (8, .t (B false)), (9, .ptr 2 0 0 6), (12, .ptr 3 0 0 2), (13, .t xs), (14, .t (I kid)), (15, .t (I k))] ∧ τ[0]? = some (.cells [.t (.list rules)] 0 0) ∧ τ[1]? = some (.cells [.t (Ls nodes)] 0 0) ∧ τ[2]? = some (.cells [.t (I ru), .t (I alt), .t (L (zI al)), .t (I fr), .t (I to), .t (L x.kids)] 0 0) ∧ τ[3]? = some (.cells [.t (I a.1), .t (envT a.2)] 0 0)) ?_ syms.length _ _ ⟨0, (fr, env), 0, rfl, Nat.zero_le _, Nat.zero_le _, H.walk, by simp, rfl, rfl, rfl, rfl⟩
   rintro m ⟨vars, scr⟩ τ ⟨k, a, kid, rfl, hk, hkid, hw, hv, t0, t1, t2, t3⟩
   simp only at hv
   subst hv
   have l3 := lt_of_get t3
   repeat apply wS
   refine wR (by simp [hxs.len]; constructor <;> rfl) ?_
   try simp only [tq]
   by_cases c3 : k < syms.length
   ·repeat apply wS
    refine wC (t := true) (by simp [c3]) ?_
    simp only [iq]
    refine W_skip ?_
    try simp only [tq]
    repeat apply wS
    refine W_block ?_
    obtain ⟨y, hy⟩ := X.get_of_lt c3
    rw [X.drop_get hy] at hw
    simp only [walkN] at hw
    obtain ⟨kind, nm2, ax, bs, rfl, hw⟩ := hw
    have hix := hxs.idxk hy (n := 4) rfl
    rcases hw with ⟨rfl, al2, ru2, k2, kr, y2, e2, env2, p1, p2, p3, p4, p5, p6, p7, p8, p9, p10, p11, p12, p13⟩ | ⟨hk3, p, p1, p2⟩
    ·have hkl2 : kid < x.kids.length := by
      rcases Nat.lt_or_ge kid x.kids.length with z | z
      ·exact z
      ·rw [List.drop_eq_nil_of_le z] at p4; cases p4
     have hkg : x.kids[kid]? = some ((k2 : Nat) : Int) := by
      obtain ⟨w, hw⟩ := X.get_of_lt hkl2
      rw [X.drop_get hw] at p4
      cases p4; exact hw
     have hkd : kr = x.kids.drop (kid + 1) := by
      rw [X.drop_get hkg] at p4
      cases p4; rfl
     obtain ⟨yy, ok, ha1, ha2⟩ := hK.args _ _ _ _ p1
     simp only at ha2
     obtain ⟨rfl, rfl⟩ := ha2
     have hrl2 := hK.ruleAt _ _ p3
     obtain ⟨hel2, hbl⟩ := hK.bind _ _ _ _ p12
     have hyn : (nodes.map encN)[k2]? = some (.agg [I ru2, I y2.alt, L (zI al2), I a.1, I e2, L y2.kids]) := by
      rw [List.getElem?_map, p5]
      simp [encN, encC, p6, p7, p8, p9]
     have hk2l : k2 < nodes.length := lt_of_get p5
     have heq := fun σ => X.eq_ld (x := L (zI al2)) (y := .list (rows1 al2)) (a := al2) (b := al2) (.inr (by rw [Lz])) (.inr rfl) (by omega) σ
     simp only [decide_true] at heq
     have i5 := fun σ => inT_ld (n := (e2 : Int)) (lo := (a.1 : Int)) (hi := (text.length : Int)) (by omega) (by omega) σ
     have g2 : (a.1 : Int) ≤ (e2 : Int) := by omega
     have g3 : (e2 : Int) ≤ text.length := by omega
     have hgA : ∀ o (j : Nat), j < τ.length → (τ ++ [o])[j]? = τ[j]? := fun o j hj => List.getElem?_append_left hj
     have h0 : ∀ o, (τ ++ [o])[0]? = some (.cells [.t (.list rules)] 0 0) := fun o => by rw [hgA _ _ (by omega)]; exact t0
     have h1 : ∀ o, (τ ++ [o])[1]? = some (.cells [.t (Ls nodes)] 0 0) := fun o => by rw [hgA _ _ (by omega)]; exact t1
     have h2 : ∀ o, (τ ++ [o])[2]? = some (.cells [.t (I ru), .t (I alt), .t (L (zI al)), .t (I fr), .t (I to), .t (L x.kids)] 0 0) := fun o => by rw [hgA _ _ (by omega)]; exact t2
     have h3 : ∀ o, (τ ++ [o])[3]? = some (.cells [.t (I a.1), .t (envT a.2)] 0 0) := fun o => by rw [hgA _ _ l3]; exact t3
     repeat apply wS
     refine wR (by simp [hix]; constructor <;> rfl) ?_
     try simp only [tq]
     repeat apply wS
     refine wC (t := false) (by simp) ?_
     simp only [iq]
     refine W_skip ?_
     try simp only [tq]
     repeat apply wS
     refine wR (by simp [hix, t3, ha1]; constructor <;> rfl) ?_
     try simp only [tq]
     repeat apply wS
     refine wR (by simp [t2, show ¬ (x.kids.length : Int) ≤ (kid : Int) by omega, show kid < x.kids.length from hkl2]; constructor <;> rfl) ?_
     try simp only [tq]
     repeat apply wS
     refine wC (t := false) (by simp) ?_
     simp only [iq]
     refine W_skip ?_
     try simp only [tq]
     repeat apply wS
     refine wR (by simp [t1, t2, hkg, hyn, X.getA, X.setA, fillV, setRange]; constructor <;> rfl) ?_
     try simp only [tq]
     repeat apply wS
     refine wR (by simp [IntWalk.i64_in ((kid : Int) + 1) (by omega)]; constructor <;> rfl) ?_
     try simp only [tq]
     repeat apply wS
     refine wR (by simp [X.getA, h0, h3, hix, hrl2, heq, i5]; constructor <;> rfl) ?_
     try simp only [tq]
     repeat apply wS
     refine wC (t := false) (by simp) ?_
     simp only [iq]
     refine W_skip ?_
     try simp only [tq]
     have hs3 : ∀ o o2, ((τ ++ [o]).set 3 o2)[3]? = some o2 := fun o o2 => List.getElem?_set_self (by simp; omega)
     have hsn : ∀ o o2 (j : Nat), j < 3 → ((τ ++ [o]).set 3 o2)[j]? = τ[j]? := fun o o2 j hj => by rw [List.getElem?_set_ne (by omega), hgA _ _ (by omega)]
     repeat apply wS
     refine wR (by simp [X.getA, h0, h3, hix, hbl, buildAt, g2, g3, setRange, setRange1]; constructor <;> rfl) ?_
     try simp only [tq]
     repeat apply wS
     refine wR (by simp [IntWalk.i64_in ((k : Int) + 1) (by omega)]; constructor <;> rfl) ?_
     try simp only [tq]
     rw [hkd] at p13
     exact ⟨syms.length - (k + 1), by omega, k + 1, (e2, env2), kid + 1, rfl, c3, hkl2, p13, by simp, by rw [hsn _ _ 0 (by omega)]; exact t0, by rw [hsn _ _ 1 (by omega)]; exact t1, by rw [hsn _ _ 2 (by omega)]; exact t2, hs3 _ _⟩
    ·obtain ⟨n, ok, hp1, hp2⟩ := hK.plain _ _ _ _ p1
     simp only [Int.ofNat_eq_natCast] at hp1 hp2
     obtain ⟨rfl, rfl⟩ := hp2
     have hs3 : ∀ o2, (τ.set 3 o2)[3]? = some o2 := fun o2 => List.getElem?_set_self l3
     have hsn : ∀ o2 (j : Nat), j < 3 → (τ.set 3 o2)[j]? = τ[j]? := fun o2 j hj => by rw [List.getElem?_set_ne (by omega)]
     repeat apply wS
     refine wR (by simp [hix]; constructor <;> rfl) ?_
     try simp only [tq]
     repeat apply wS
     refine wC (t := true) (by simp [show ¬ (kind : Int) = 3 by omega]) ?_
     simp only [iq]
     repeat apply wS
     refine wR (by simp [hix, t3, hp1]; constructor <;> rfl) ?_
     try simp only [tq]
     repeat apply wS
     refine wR (by simp; constructor <;> rfl) ?_
     try simp only [tq]
     repeat apply wS
     refine wC (t := false) (by simp) ?_
     simp only [iq]
     refine W_skip ?_
     try simp only [tq]
     repeat apply wS
     refine wR (by simp [t3, setRange, setRange1]; constructor <;> rfl) ?_
     try simp only [tq]
     repeat apply wS
     refine W_exit ?_
     try simp only [tq, if_true]
     repeat apply wS
     refine wR (by simp [IntWalk.i64_in ((k : Int) + 1) (by omega)]; constructor <;> rfl) ?_
     try simp only [tq]
     exact ⟨syms.length - (k + 1), by omega, k + 1, (p, a.2), kid, rfl, c3, hkid, p2, by simp, by rw [hsn _ 0 (by omega)]; exact t0, by rw [hsn _ 1 (by omega)]; exact t1, by rw [hsn _ 2 (by omega)]; exact t2, hs3 _⟩
   ·repeat apply wS
    refine wC (t := false) (by simp [c3]) ?_
    simp only [iq]
    repeat apply wS
    refine W_exit ?_
    try simp only [tq, if_true]
    have : k = syms.length := by omega
    subst this
    rw [List.drop_length] at hw
    simp only [walkN] at hw
    obtain ⟨hw1, hw2⟩ := hw
    have hkk : kid = x.kids.length := by
     have := List.drop_eq_nil_iff.1 hw1
     omega
    subst hkk
    repeat apply wS
    refine wR (by simp [t2, t3, hw2]; constructor <;> rfl) ?_
    try simp only [tq]
    refine W_ret ?_
    try simp only [tq]
    simp [Tryz.f23]
end Y
namespace Y
open X
attribute [-simp] lenV idxV setRange getElem?_pos
/-! ### TreeOk of right nodes -/
theorem treeOk_ld {K : Kn} {rules : List T} {text : List Nat} (hK : KnOk K (.list rules) text) (hrl : rules.length ≤ 1000) (htl : text.length ≤ 12) (gok : ∀ σ, LD S 21 [.t (.agg [.list rules])] σ = some (.t (B true), σ)) {nodes : List N} (hn0 : 1 ≤ nodes.length) (hn1 : nodes.length ≤ 60) (H : ∀ i, i < nodes.length → NodeOk K rules text nodes i) (hkl : ∀ x ∈ nodes, x.kids.length ≤ 1000) (σ : Store) :
  LD S 9 [.t (.agg [.list rules]), .t (.str text), .t (encT nodes)] σ = some (.t (B true), σ) := by
 suffices hh : ∃ σ', LV S 9 [.t (.agg [.list rules]), .t (.str text), .t (encT nodes)] [] = some (.t (B true), σ') by
  obtain ⟨σ', h⟩ := hh
  exact LD_pure (A := A9) (args := [.t (.agg [.list rules]), .t (.str text), .t (encT nodes)]) (v := .t (B true)) rfl rfl rfl h rfl σ
 have i1 := fun σ => inT_ld (n := (nodes.length : Int)) (lo := 1) (hi := 60) (by omega) (by omega) σ
 have ht : ¬ (12 : Int) < (text.length : Int) := by omega
 refine LV_bodyE (A := A9) rfl Tryz.func9 rfl ?_
 repeat apply wS
 refine wR (by simp; constructor <;> rfl) ?_
 try simp only [tq]
 repeat apply wS
 refine wR (by simp [gok, ht, i1]; constructor <;> rfl) ?_
 try simp only [tq]
 repeat apply wS
 refine wC (t := false) (by simp) ?_
 simp only [iq]
 refine W_skip ?_
 try simp only [tq]
 repeat apply wS
 refine wR (by simp; constructor <;> rfl) ?_
 try simp only [tq]
 repeat apply wS
 refine W_block ?_
 refine W_loop (I := fun m st τ => ∃ k, m = nodes.length - k ∧ k ≤ nodes.length ∧ st.vars = [(0, .t (.agg [.list rules])), (1, .t (.str text)), (2, .t (encT nodes)), (3, .ptr 0 0 0 1), (5, .ptr 1 0 0 1), (6, .t (B false)), (7, .t (I k))] ∧ τ = [.cells [.t (.list rules)] 0 0, .cells [.t (Ls nodes)] 0 0]) ?_ nodes.length _ _ ⟨0, rfl, Nat.zero_le _, by simp, rfl⟩
 rintro m ⟨vars, scr⟩ τ ⟨k, rfl, hk, hv, rfl⟩
 simp only at hv
 subst hv
 repeat apply wS
 refine wR (by simp; constructor <;> rfl) ?_
 try simp only [tq]
 by_cases c1 : k < nodes.length
 ·repeat apply wS
  refine wC (t := true) (by simp [c1]) ?_
  simp only [iq]
  refine W_skip ?_
  try simp only [tq]
  repeat apply wS
  refine W_block ?_
  have hno := fun σ => node_ld hK hrl (by omega) (by omega) (H k c1) hkl σ
  repeat apply wS
  refine wR (by simp [hno]; constructor <;> rfl) ?_
  try simp only [tq]
  repeat apply wS
  refine wC (t := false) (by simp) ?_
  simp only [iq]
  refine W_skip ?_
  try simp only [tq]
  repeat apply wS
  refine wR (by simp [IntWalk.i64_in ((k : Int) + 1) (by omega)]; constructor <;> rfl) ?_
  try simp only [tq]
  exact ⟨nodes.length - (k + 1), by omega, k + 1, rfl, c1, by simp, trivial⟩
 ·repeat apply wS
  refine wC (t := false) (by simp [c1]) ?_
  simp only [iq]
  repeat apply wS
  refine W_exit ?_
  try simp only [tq, if_true]
  repeat apply wS
  refine wR (by simp; constructor <;> rfl) ?_
  try simp only [tq]
  refine W_ret ?_
  try simp only [tq]
  simp [Tryz.f9]
/-! ### The same -/
theorem sameInts_ld (l : List Int) (hl : l.length ≤ 1048576) (σ : Store) : LD S 24 [.t (L l), .t (L l)] σ = some (.t (B true), σ) := by
 refine LD_pure (A := A24) (v := .t (B true)) (σ0 := []) rfl rfl rfl ?_ rfl σ
 refine LV_body (A := A24) rfl Tryz.func24 rfl ?_
 repeat apply wS
 refine wR (by simp; constructor <;> rfl) ?_
 try simp only [tq]
 repeat apply wS
 refine wR (by simp; constructor <;> rfl) ?_
 try simp only [tq]
 repeat apply wS
 refine wC (t := false) (by simp) ?_
 simp only [iq]
 refine W_skip ?_
 try simp only [tq]
 repeat apply wS
 refine wR (by simp; constructor <;> rfl) ?_
 try simp only [tq]
 repeat apply wS
 refine W_block ?_
 refine W_loop (I := fun m st τ => ∃ k, m = l.length - k ∧ k ≤ l.length ∧ st.vars = [(0, .t (L l)), (1, .t (L l)), (4, .t (B false)), (5, .t (I k))] ∧ τ = []) ?_ l.length _ _ ⟨0, rfl, Nat.zero_le _, by simp, rfl⟩
 rintro m ⟨vars, scr⟩ τ ⟨k, rfl, hk, hv, rfl⟩
 simp only at hv
 subst hv
 repeat apply wS
 refine wR (by simp; constructor <;> rfl) ?_
 try simp only [tq]
 by_cases c1 : k < l.length
 ·repeat apply wS
  refine wC (t := true) (by simp [c1]) ?_
  simp only [iq]
  refine W_skip ?_
  try simp only [tq]
  repeat apply wS
  refine W_block ?_
  obtain ⟨a, hka⟩ := X.get_of_lt c1
  repeat apply wS
  refine wR (by simp [hka]; constructor <;> rfl) ?_
  try simp only [tq]
  repeat apply wS
  refine wC (t := false) (by simp) ?_
  simp only [iq]
  refine W_skip ?_
  try simp only [tq]
  repeat apply wS
  refine wR (by simp [IntWalk.i64_in ((k : Int) + 1) (by omega)]; constructor <;> rfl) ?_
  try simp only [tq]
  exact ⟨l.length - (k + 1), by omega, k + 1, rfl, c1, by simp, by simp⟩
 ·repeat apply wS
  refine wC (t := false) (by simp [c1]) ?_
  simp only [iq]
  repeat apply wS
  refine W_exit ?_
  try simp only [tq, if_true]
  repeat apply wS
  refine wR (by simp; constructor <;> rfl) ?_
  try simp only [tq]
  refine W_ret ?_
  try simp only [tq]
  simp [Tryz.f24]
theorem sameTree_ld {x y : T} {l : List N} (hx : isTree x l) (hy : isTree y l) (hl : l.length ≤ 1000) (hn : ∀ n ∈ l, n.fit) (σ : Store) : LD S 11 [.t (.agg [x]), .t (.agg [y])] σ = some (.t (B true), σ) := by
 suffices hh : ∃ σ', LV S 11 [.t (.agg [x]), .t (.agg [y])] [] = some (.t (B true), σ') by
  obtain ⟨σ', h⟩ := hh
  exact LD_pure (A := A11) (args := [.t (.agg [x]), .t (.agg [y])]) (v := .t (B true)) rfl rfl rfl h rfl σ
 have lx : ∀ (σ : Store) (e : TypeId), lenV σ (.slice e) (.t x) = some (l.length : Int) := fun σ e => by
  rcases hx with rfl | ⟨rfl, rfl⟩ <;> simp
 have ly : ∀ (σ : Store) (e : TypeId), lenV σ (.slice e) (.t y) = some (l.length : Int) := fun σ e => by
  rcases hy with rfl | ⟨rfl, rfl⟩ <;> simp
 have ix : ∀ {k : Nat} {n : N}, l[k]? = some n → idxV 6 (.t x) (k : Int) = some (.t (.snap (encC n))) := fun {k n} h => by
  rcases hx with rfl | ⟨rfl, rfl⟩
  ·simp [h]
  ·simp at h
 have iy : ∀ {k : Nat} {n : N}, l[k]? = some n → idxV 6 (.t y) (k : Int) = some (.t (.snap (encC n))) := fun {k n} h => by
  rcases hy with rfl | ⟨rfl, rfl⟩
  ·simp [h]
  ·simp at h
 refine LV_bodyE (A := A11) rfl Tryz.func11 rfl ?_
 repeat apply wS
 refine wR (by simp; constructor <;> rfl) ?_
 try simp only [tq]
 repeat apply wS
 refine wR (by simp [lx, ly]; constructor <;> rfl) ?_
 try simp only [tq]
 repeat apply wS
 refine wC (t := false) (by simp) ?_
 simp only [iq]
 refine W_skip ?_
 try simp only [tq]
 repeat apply wS
 refine wR (by simp; constructor <;> rfl) ?_
 try simp only [tq]
 repeat apply wS
 refine W_block ?_
 refine W_loop (I := fun m st τ => ∃ k, m = l.length - k ∧ k ≤ l.length ∧ st.vars = [(0, .t (.agg [x])), (1, .t (.agg [y])), (2, .ptr 0 0 0 1), (3, .ptr 1 0 0 1), (4, .t (B false)), (5, .t (I k))] ∧ τ[0]? = some (.cells [.t x] 0 0) ∧ τ[1]? = some (.cells [.t y] 0 0)) ?_ l.length _ _ ⟨0, rfl, Nat.zero_le _, by simp, rfl, rfl⟩
 rintro m ⟨vars, scr⟩ τ ⟨k, rfl, hk, hv, t0, t1⟩
 simp only at hv
 subst hv
 have l1 := lt_of_get t1
 repeat apply wS
 refine wR (by simp [t0, lx]; constructor <;> rfl) ?_
 try simp only [tq]
 by_cases c1 : k < l.length
 ·repeat apply wS
  refine wC (t := true) (by simp [c1]) ?_
  simp only [iq]
  refine W_skip ?_
  try simp only [tq]
  repeat apply wS
  refine W_block ?_
  obtain ⟨n, hkn⟩ := X.get_of_lt c1
  have hf := hn n (List.mem_of_getElem? hkn)
  have s1 := fun σ => sameInts_ld n.args hf.1 σ
  have s2 := fun σ => sameInts_ld n.kids hf.2 σ
  have a0 : ∀ o, (τ ++ o)[0]? = some (.cells [.t x] 0 0) := fun o => by rw [List.getElem?_append_left (by omega)]; exact t0
  have a1 : ∀ o, (τ ++ o)[1]? = some (.cells [.t y] 0 0) := fun o => by rw [List.getElem?_append_left l1]; exact t1
  repeat apply wS
  refine wR (by simp [t0, ix hkn, X.getA, X.setA, fillV, setRange]; constructor <;> rfl) ?_
  try simp only [tq]
  repeat apply wS
  refine wR (by simp [a1, iy hkn, X.getB, X.setB, fillV, setRange]; constructor <;> rfl) ?_
  try simp only [tq]
  repeat apply wS
  refine wR (by simp [X.getA, X.getB, s1, s2]; constructor <;> rfl) ?_
  try simp only [tq]
  repeat apply wS
  refine wC (t := false) (by simp) ?_
  simp only [iq]
  refine W_skip ?_
  try simp only [tq]
  repeat apply wS
  refine wR (by simp [IntWalk.i64_in ((k : Int) + 1) (by omega)]; constructor <;> rfl) ?_
  try simp only [tq]
  exact ⟨l.length - (k + 1), by omega, k + 1, rfl, c1, by simp, a0 _, a1 _⟩
 ·repeat apply wS
  refine wC (t := false) (by simp [c1]) ?_
  simp only [iq]
  repeat apply wS
  refine W_exit ?_
  try simp only [tq, if_true]
  repeat apply wS
  refine wR (by simp; constructor <;> rfl) ?_
  try simp only [tq]
  refine W_ret ?_
  try simp only [tq]
  simp [Tryz.f11]
theorem start_ld (n0 : List Nat) (ps0 az0 : T) (gr : List T) (σ : Store) : LD S 7 [.t (.agg [.list (.agg [.str n0, ps0, az0] :: gr)])] σ = some (.t (.str n0), σ) := by
 suffices hh : ∃ σ', LV S 7 [.t (.agg [.list (.agg [.str n0, ps0, az0] :: gr)])] [] = some (.t (.str n0), σ') by
  obtain ⟨σ', h⟩ := hh
  exact LD_pure (A := A7) (args := [.t (.agg [.list (.agg [.str n0, ps0, az0] :: gr)])]) (v := .t (.str n0)) rfl rfl rfl h rfl σ
 refine LV_bodyE (A := A7) rfl Tryz.func7 rfl ?_
 repeat apply wS
 refine wR (by simp; constructor <;> rfl) ?_
 try simp only [tq]
 repeat apply wS
 refine wR (by simp; constructor <;> rfl) ?_
 try simp only [tq]
 repeat apply wS
 refine wC (t := false) (by simp [show ¬ ((gr.length : Int) + 1 = 0) by omega]) ?_
 simp only [iq]
 refine W_skip ?_
 try simp only [tq]
 repeat apply wS
 refine wR (by simp; constructor <;> rfl) ?_
 try simp only [tq]
 refine W_ret ?_
 try simp only [tq]
 simp [Tryz.f7]
/-! ### SubTree, Swapped -/
theorem out_frz {σ : Store} {v : V} {r : Option (List N)} (h : Out0 σ v r) : ∃ x, isTree x (r.getD []) ∧ Go.V.frz 40 σ v = some (.tup [.agg [x], B r.isSome]) := by
 obtain ⟨w, rfl, h1, h2⟩ := h
 rcases h1 with ⟨rfl, e⟩ | ⟨t, rfl, h2, h3, h4, h5⟩
 ·exact ⟨.nils, .inr ⟨rfl, e⟩, rfl⟩
 ·have h38 : Go.V.frz (35 + 3) σ t.sl = some (Ls (t.nodes.map Nd.n)) := h2.frz 35
  refine ⟨Ls (r.getD []), .inl rfl, ?_⟩
  rw [h5] at h38
  have e : mkTup [mkAgg [t.sl], .t (B r.isSome)] = .tup [.agg [t.sl], .t (B r.isSome)] := rfl
  have h39 : Go.V.frz 39 σ (.agg [t.sl]) = some (.agg [Ls (r.getD [])]) := by
   rw [frz_agg 38, frzs, h38]; rfl
  rw [e, Go.V.frz, frzs, h39]
  rfl
theorem implSub_ld (l : List N) (at_ : Int) (hl : l.length ≤ 1048576) (hn : ∀ n ∈ l, n.fit) : ∃ x, isTree x ((sub l at_).getD []) ∧ ∀ σ, LD S 8 [.t (encT l), .t (I at_)] σ = some (.t (.tup [.agg [x], B (sub l at_).isSome]), σ) := by
 obtain ⟨v, σ0, h1, h2⟩ := implSub_lv l at_ hl hn
 obtain ⟨x, h3, h4⟩ := out_frz h2
 exact ⟨x, h3, fun σ => LD_pure (A := A8) (args := [.t (encT l), .t (I at_)]) rfl rfl rfl h1 h4 σ⟩
theorem specSub_ld (l : List N) (at_ : Int) (hl : l.length ≤ 1048576) (hn : ∀ n ∈ l, n.fit) : ∃ x, isTree x ((sub l at_).getD []) ∧ ∀ σ, LD S 13 [.t (encT l), .t (I at_)] σ = some (.t (.tup [.agg [x], B (sub l at_).isSome]), σ) := by
 obtain ⟨v, σ0, h1, h2⟩ := specSub_lv l at_ hl hn
 obtain ⟨x, h3, h4⟩ := out_frz h2
 exact ⟨x, h3, fun σ => LD_pure (A := A13) (args := [.t (encT l), .t (I at_)]) rfl rfl rfl h1 h4 σ⟩
theorem implSwp_ld (l m : List N) (at_ : Int) (hl : l.length ≤ 1048576) (hn : ∀ n ∈ l, n.fit) (hml : m.length ≤ 1048576) (hmn : ∀ n ∈ m, n.fit) : ∃ x, isTree x ((swp l at_ m).getD []) ∧ ∀ σ, LD S 10 [.t (encT l), .t (I at_), .t (encT m)] σ = some (.t (.tup [.agg [x], B (swp l at_ m).isSome]), σ) := by
 obtain ⟨v, σ0, h1, h2⟩ := implSwp_lv l m at_ hl hn hml hmn
 obtain ⟨x, h3, h4⟩ := out_frz h2
 exact ⟨x, h3, fun σ => LD_pure (A := A10) (args := [.t (encT l), .t (I at_), .t (encT m)]) rfl rfl rfl h1 h4 σ⟩
/-- of no tree -/
theorem implSub_nil (at_ : Int) (σ : Store) : LD S 8 [.t (.agg [.nils]), .t (I at_)] σ = some (.t (.tup [.agg [.nils], B false]), σ) := by
 suffices hh : ∃ σ', LV S 8 [.t (.agg [.nils]), .t (I at_)] [] = some (.t (.tup [.agg [.nils], B false]), σ') by
  obtain ⟨σ', h⟩ := hh
  exact LD_pure (A := A8) (args := [.t (.agg [.nils]), .t (I at_)]) (v := .t (.tup [.agg [.nils], B false])) rfl rfl rfl h rfl σ
 have hw := fun σ => within_ld at_ 0 (-1) σ
 have hf : (decide (0 ≤ at_) && decide (at_ ≤ -1)) = false := by
  simp only [Bool.and_eq_false_iff, decide_eq_false_iff_not]
  omega
 rw [hf] at hw
 refine LV_bodyE (A := A8) rfl Tryz.func8 rfl ?_
 repeat apply wS
 refine wR (by simp; constructor <;> rfl) ?_
 try simp only [tq]
 repeat apply wS
 refine wR (by simp [hw, IntWalk.i64_in (-1 : Int) (by omega)]; constructor <;> rfl) ?_
 try simp only [tq]
 repeat apply wS
 refine wC (t := true) (by simp) ?_
 simp only [iq]
 repeat apply wS
 refine wR (by simp [buildV, fieldSizes, fillV, repZero, setRange, setRange1]; constructor <;> rfl) ?_
 try simp only [tq]
 refine W_ret ?_
 try simp only [tq]
 simp [Tryz.f8]
end Y
