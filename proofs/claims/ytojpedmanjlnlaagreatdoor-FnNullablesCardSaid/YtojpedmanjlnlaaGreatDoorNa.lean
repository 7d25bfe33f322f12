/- A part of the proof. No statement of the claim is in it. -/
import Derived.Test.YtojpedmanjlnlaaGreatDoorTny
import Derived.Test.YtojpedmanjlnlaaGreatDoorVc
import Derived.IntWalk
set_option maxRecDepth 100000
set_option maxHeartbeats 4000000
set_option linter.all false
open Go Go.V Go.Proofs
/- The reference's engine (spec RunGoal): contracts of the helpers. -/
namespace X
abbrev I (n : Int) : T := .int .i64 n
abbrev B (b : Bool) : T := .bool b
attribute [simp] cls Go.V.beq_self
@[simp] theorem bytes_nil : V.bytes { data := #[] } = [] := rfl
@[simp] theorem bytes_mk (a : Array UInt8) : V.bytes ⟨a⟩ = a.toList.map UInt8.toNat := rfl
attribute [-simp] lenV idxV getElem?_pos
attribute [simp] List.getElem?_cons_zero List.getElem?_cons_succ
@[simp] theorem lenV_str (σ : Store) (s : List Nat) : lenV σ .str (.t (.str s)) = some (s.length : Int) := rfl
@[simp] theorem lenV_list (σ : Store) (e : TypeId) (r : List T) : lenV σ (.slice e) (.t (.list r)) = some (r.length : Int) := rfl
@[simp] theorem lenV_nils (σ : Store) (e : TypeId) : lenV σ (.slice e) (.t .nils) = some 0 := rfl
@[simp] theorem lenV_sl (σ : Store) (e : TypeId) (a b c n d : Nat) : lenV σ (.slice e) (.sl a b c n d) = some (n : Int) := rfl
@[simp] theorem idxV_list (k : Nat) (rows : List T) (i : Int) : idxV k (.t (.list rows)) i = if 0 ≤ i then (match rows[i.toNat]? with
  | some (.agg cs) => if cs.length = k then some (.t (.snap cs)) else none
  | _ => none) else none := rfl
@[simp] theorem idxV_sl (k loc g off len k' : Nat) (i : Int) : idxV k (.sl loc g off len k') i = if 0 ≤ i ∧ i < len ∧ k' = k then some (.ptr loc g (off + i.toNat * k) k) else none := rfl

/-- Slices of numbers, as trees; as cells. -/
def rows1 (l : List Nat) : List T := l.map fun (n : Nat) => .agg [I n]
def ints (l : List Nat) : List V := l.map fun (n : Nat) => V.t (I n)
@[simp] theorem rows1_len (l : List Nat) : (rows1 l).length = l.length := by simp [rows1]
@[simp] theorem ints_len (l : List Nat) : (ints l).length = l.length := by simp [ints]
@[simp] theorem rows1_get (l : List Nat) (i : Nat) : (rows1 l)[i]? = (l[i]?).map fun (n : Nat) => T.agg [I n] := by simp [rows1]
@[simp] theorem ints_get (l : List Nat) (i : Nat) : (ints l)[i]? = (l[i]?).map fun (n : Nat) => V.t (I n) := by simp [ints]
def Is (x : T) (l : List Nat) : Prop := (x = .nils ∧ l = []) ∨ x = .list (rows1 l)
theorem Is.len {x : T} {l : List Nat} (h : Is x l) (σ : Store) (e : TypeId) : lenV σ (.slice e) (.t x) = some (l.length : Int) := by
 rcases h with ⟨rfl, rfl⟩ | rfl
 ·rfl
 ·simp
theorem get_of_lt {α : Type} {l : List α} {k : Nat} (h : k < l.length) : ∃ y, l[k]? = some y := ⟨l[k], List.getElem?_eq_getElem h⟩
theorem lt_of_get {α : Type} {l : List α} {k : Nat} {y : α} (h : l[k]? = some y) : k < l.length := by
 rcases Nat.lt_or_ge k l.length with h1 | h1
 ·exact h1
 ·rw [List.getElem?_eq_none h1] at h; cases h
theorem drop_get {α : Type} {l : List α} {k : Nat} {y : α} (h : l[k]? = some y) : l.drop k = y :: l.drop (k + 1) := by
 have hk := lt_of_get h
 rw [List.drop_eq_getElem_cons hk]
 rw [List.getElem?_eq_getElem hk] at h
 cases h; rfl
/-- A value that reads as a list of numbers. -/
def Rd (σ : Store) (v : V) (l : List Nat) : Prop := (v = .t .nils ∧ l = []) ∨ v = .t (.list (rows1 l)) ∨ ∃ d g w, v = .sl d g 0 l.length 1 ∧ σ[d]? = some (.cells (ints l) g w) ∧ w ≤ g
theorem Rd.len {σ : Store} {v : V} {l : List Nat} (h : Rd σ v l) (e : TypeId) : lenV σ (.slice e) v = some (l.length : Int) := by
 rcases h with ⟨rfl, rfl⟩ | rfl | ⟨d, g, w, rfl, _, _⟩ <;> simp
/-! ### l01In, l07In, l07SameInts -/
def inF (n low high : Int) : Bool := decide (low ≤ n) && decide (n ≤ high)
theorem in_ld (n low high : Int) (σ : Store) : LD S 24 [.t (I n), .t (I low), .t (I high)] σ = some (.t (B (inF n low high)), σ) := by
 suffices h : LV S 24 [.t (I n), .t (I low), .t (I high)] [] = some (.t (B (inF n low high)), []) from LD_pure (A := A24) (v := .t (B (inF n low high))) rfl rfl rfl h rfl σ
 refine LV_body (A := A24) rfl Tryz.func24 rfl ?_
 repeat apply wS
 refine wR (by simp [A24]; constructor <;> rfl) ?_
 try simp only [tq]
 by_cases h : low ≤ n
 ·repeat apply wS
  refine wR (by simp [h, A24]; constructor <;> rfl) ?_
  try simp only [tq]
  refine W_ret ?_
  try simp only [tq]
  simp [Tryz.f24, inF, h]
 ·repeat apply wS
  refine wR (by simp [h, A24]; constructor <;> rfl) ?_
  try simp only [tq]
  refine W_ret ?_
  try simp only [tq]
  simp [Tryz.f24, inF, h]

theorem getA (σ r : Store) : (σ ++ r)[σ.length]? = r[0]? := by rw [List.getElem?_append_right (Nat.le_refl _), Nat.sub_self]
theorem setA (σ r : Store) (x : Go.V.Obj) : (σ ++ r).set σ.length x = σ ++ r.set 0 x := by rw [List.set_append_right _ _ (Nat.le_refl _), Nat.sub_self]
theorem getB (σ r : Store) : (σ ++ r)[σ.length + 1]? = r[1]? := by rw [List.getElem?_append_right (Nat.le_add_right _ _), Nat.add_sub_cancel_left]
theorem setB (σ r : Store) (x : Go.V.Obj) : (σ ++ r).set (σ.length + 1) x = σ ++ r.set 1 x := by rw [List.set_append_right _ _ (Nat.le_add_right _ _), Nat.add_sub_cancel_left]
end X
namespace X
attribute [simp] lenV idxV
/-! ### Draws -/
theorem set_same {α : Type} : ∀ {l : List α} {i : Nat} {a : α}, l[i]? = some a → l.set i a = l
 | x :: r, 0, a, h => by simp at h; simp [h]
 | x :: r, i + 1, a, h => by simp at h; simp [set_same h]
 | [], _, _, h => by simp at h
/-- Trees that are a slice of bytes. -/
def BytesT (x : T) (l : List Int) : Prop := (x = .nils ∧ l = []) ∨ x = .list (l.map fun b => .agg [.int .u8 b])
theorem wrap_u8 (n : Nat) (h : n ≤ 255) : IntKind.i64.wrap (n : Int) = n := IntWalk.i64_in _ (by omega)
@[simp] theorem and255s (n : Nat) : IntKind.i64.wrap ((n &&& 255 % 2 ^ IntKind.i64.bits : Nat) : Int) = ((n % 256 : Nat) : Int) := by
 have e : 255 % 2 ^ IntKind.i64.bits = 2 ^ 8 - 1 := by decide
 rw [e, Nat.and_two_pow_sub_one_eq_mod]
 exact wrap_u8 _ (by omega)
/-- The cursor in memory. -/
abbrev Cur (x : T) (i h : Int) : V.Obj := .cells [.t x, .t (I i), .t (I h)] 0 0
def CurO (x : T) (l : List Int) (o : V.Obj) : Prop := ∃ i h, o = Cur x i h ∧ 0 ≤ i ∧ i ≤ l.length
def CurAt (σ : Store) (c : Nat) (x : T) (l : List Int) : Prop := ∃ o, σ[c]? = some o ∧ CurO x l o
theorem CurAt.set {σ : Store} {c : Nat} {x : T} {l : List Int} (h : CurAt σ c x l) {o : V.Obj} (ho : CurO x l o) : CurAt (σ.set c o) c x l := by
 obtain ⟨o', h1, _⟩ := h
 exact ⟨o, List.getElem?_set_self (lt_of_get h1), ho⟩
theorem CurAt.lt {σ : Store} {c : Nat} {x : T} {l : List Int} (h : CurAt σ c x l) : c < σ.length := by
 obtain ⟨o', h1, _⟩ := h
 exact lt_of_get h1
theorem byte_ld {x : T} {l : List Int} (hx : BytesT x l) (hl : (l.length : Int) ≤ 1048576) {σ : Store} {c : Nat} (hC : CurAt σ c x l) :
  ∃ r o, LD S 69 [.ptr c 0 0 3] σ = some (.t (I r), σ.set c o) ∧ 0 ≤ r ∧ r ≤ 255 ∧ CurO x l o := by
 obtain ⟨_, hc, i, h, rfl, h0, h1⟩ := hC
 have lc := lt_of_get hc
 have hs : ∀ o, (σ.set c o)[c]? = some o := fun o => List.getElem?_set_self lc
 suffices hh : ∃ v σ', LV S 69 [.ptr c 0 0 3] σ = some (v, σ') ∧ ∃ r o, v = .t (I r) ∧ σ' = σ.set c o ∧ 0 ≤ r ∧ r ≤ 255 ∧ CurO x l o by
  obtain ⟨v, σ', q1, r, o, rfl, rfl, q2⟩ := hh
  exact ⟨r, o, by rw [LD_inl (A := A69) rfl rfl rfl]; exact q1, q2⟩
 rcases hx with ⟨rfl, rfl⟩ | rfl
 ·refine LV_bodyX (A := A69) rfl Tryz.func69 rfl ?_
  repeat apply wS
  refine wR (by simp; constructor <;> rfl) ?_
  try simp only [tq]
  repeat apply wS
  refine wR (by simp [hc, setRange]; constructor <;> rfl) ?_
  try simp only [tq]
  repeat apply wS
  refine wR (by simp [hs]; constructor <;> rfl) ?_
  try simp only [tq]
  repeat apply wS
  refine wR (by simp [hs]; constructor <;> rfl) ?_
  try simp only [tq]
  repeat apply wS
  refine wC (t := false) (by simp [show ¬ i < 0 by omega]) ?_
  simp only [iq]
  refine W_skip ?_
  try simp only [tq]
  repeat apply wS
  refine wR (by simp; constructor <;> rfl) ?_
  try simp only [tq]
  refine W_ret ?_
  exact ⟨trivial, _, rfl, _, _, rfl, rfl, by omega, by omega, ⟨_, _, rfl, by omega, by omega⟩⟩
 ·refine LV_bodyX (A := A69) rfl Tryz.func69 rfl ?_
  repeat apply wS
  refine wR (by simp; constructor <;> rfl) ?_
  try simp only [tq]
  repeat apply wS
  refine wR (by simp [hc, setRange]; constructor <;> rfl) ?_
  try simp only [tq]
  repeat apply wS
  refine wR (by simp [hs]; constructor <;> rfl) ?_
  try simp only [tq]
  repeat apply wS
  refine wR (by simp [hs]; constructor <;> rfl) ?_
  try simp only [tq]
  by_cases hi : i < l.length
  ·repeat apply wS
   refine wC (t := true) (by simp [hi]) ?_
   simp only [iq]
   obtain ⟨b, hb⟩ : ∃ b, l[i.toNat]? = some b := ⟨l[i.toNat]'(by omega), List.getElem?_eq_getElem _⟩
   repeat apply wS
   refine wR (by simp [hs, hb, h0, convV]; constructor <;> rfl) ?_
   try simp only [tq]
   repeat apply wS
   refine wR (by simp [hs, setRange, List.set_set]; constructor <;> rfl) ?_
   try simp only [tq]
   repeat apply wS
   refine wR (by simp; constructor <;> rfl) ?_
   try simp only [tq]
   refine W_ret ?_
   refine ⟨trivial, _, rfl, _, _, rfl, rfl, by omega, by omega, ⟨_, _, rfl, ?_, ?_⟩⟩
   ·rw [IntWalk.i64_in _ (by omega)]; omega
   ·rw [IntWalk.i64_in _ (by omega)]; omega
  ·repeat apply wS
   refine wC (t := false) (by simp [hi]) ?_
   simp only [iq]
   refine W_skip ?_
   try simp only [tq]
   repeat apply wS
   refine wR (by simp; constructor <;> rfl) ?_
   try simp only [tq]
   refine W_ret ?_
   exact ⟨trivial, _, rfl, _, _, rfl, rfl, by omega, by omega, ⟨_, _, rfl, by omega, by omega⟩⟩
/-- a number below another one -/
theorem below_ld {x : T} {l : List Int} (hx : BytesT x l) (hl : (l.length : Int) ≤ 1048576) {σ : Store} {c : Nat} (hC : CurAt σ c x l) {n : Nat} (hn : 0 < n) (hn2 : n ≤ 256) :
  ∃ (r : Nat) (o : V.Obj), LD S 37 [.ptr c 0 0 3, .t (I n)] σ = some (.t (I r), σ.set c o) ∧ r < n ∧ CurO x l o := by
 obtain ⟨r, o, b1, b2, b3, b4⟩ := byte_ld hx hl hC
 obtain ⟨m, hr, hlt⟩ : ∃ m : Nat, r.tmod n = (m : Int) ∧ m < n := by
  refine ⟨(r % n).toNat, ?_, ?_⟩
  ·rw [Int.tmod_eq_emod_of_nonneg b2]
   have := Int.emod_nonneg r (show (n : Int) ≠ 0 by omega)
   omega
  ·have := Int.emod_lt_of_pos r (show (0 : Int) < n by omega)
   have := Int.emod_nonneg r (show (n : Int) ≠ 0 by omega)
   omega
 suffices hh : ∃ v σ', LV S 37 [.ptr c 0 0 3, .t (I n)] σ = some (v, σ') ∧ v = .t (I m) ∧ σ' = σ.set c o by
  obtain ⟨v, σ', q1, rfl, rfl⟩ := hh
  exact ⟨m, o, by rw [LD_inl (A := A37) rfl rfl rfl]; exact q1, hlt, b4⟩
 refine LV_bodyX (A := A37) rfl Tryz.func37 rfl ?_
 repeat apply wS
 refine wR (by simp; constructor <;> rfl) ?_
 try simp only [tq]
 repeat apply wS
 refine wR (by simp; constructor <;> rfl) ?_
 try simp only [tq]
 repeat apply wS
 refine wC (t := false) (by simp [show ¬ (n : Int) ≤ 0 by omega, show ¬ n = 0 by omega]) ?_
 simp only [iq]
 refine W_skip ?_
 try simp only [tq]
 repeat apply wS
 refine wR (by simp; constructor <;> rfl) ?_
 try simp only [tq]
 repeat apply wS
 refine wC (t := true) (by simp [show (n : Int) ≤ 256 by omega]) ?_
 simp only [iq]
 repeat apply wS
 refine wR (by simp [b1, hr, show ¬ n = 0 by omega]; constructor <;> rfl) ?_
 try simp only [tq]
 refine W_ret ?_
 exact ⟨trivial, _, rfl, rfl, rfl⟩

theorem new_lv {x : T} {l : List Int} (hx : BytesT x l) (hl : (l.length : Int) ≤ 1048576) (σ : Store) : ∃ h, LD S 14 [.t x] σ = some (.ptr σ.length 0 0 3, σ ++ [Cur x 0 h]) := by
 suffices hh : ∃ v σ', LV S 14 [.t x] σ = some (v, σ') ∧ ∃ h, v = .ptr σ.length 0 0 3 ∧ σ' = σ ++ [Cur x 0 h] by
  obtain ⟨v, σ', q1, h, rfl, rfl⟩ := hh
  exact ⟨h, by rw [LD_inl (A := A14) rfl rfl rfl]; exact q1⟩
 rcases hx with ⟨rfl, rfl⟩ | rfl
 ·refine LV_bodyX (A := A14) rfl Tryz.func14 rfl ?_
  repeat apply wS
  refine wR (by simp; constructor <;> rfl) ?_
  try simp only [tq]
  repeat apply wS
  refine wR (by simp; constructor <;> rfl) ?_
  try simp only [tq]
  repeat apply wS
  refine wR (by simp; constructor <;> rfl) ?_
  try simp only [tq]
  repeat apply wS
  refine W_block ?_
  refine W_loop_step ?_
  repeat apply wS
  refine wR (by simp; constructor <;> rfl) ?_
  try simp only [tq]
  repeat apply wS
  refine wC (t := false) (by simp) ?_
  simp only [iq]
  repeat apply wS
  refine W_exit ?_
  try simp only [tq, if_true]
  repeat apply wS
  refine wR (by simp [buildV, fieldSizes, fillV]; constructor <;> rfl) ?_
  try simp only [tq]
  refine W_ret ?_
  exact ⟨trivial, _, rfl, _, rfl, rfl⟩
 ·refine LV_bodyX (A := A14) rfl Tryz.func14 rfl ?_
  repeat apply wS
  refine wR (by simp; constructor <;> rfl) ?_
  try simp only [tq]
  repeat apply wS
  refine wR (by simp; constructor <;> rfl) ?_
  try simp only [tq]
  repeat apply wS
  refine wR (by simp; constructor <;> rfl) ?_
  try simp only [tq]
  repeat apply wS
  refine W_block ?_
  refine W_loop (I := fun m st τ => ∃ (k : Nat) (h : Int), m = l.length - k ∧ k ≤ l.length ∧ st.vars = [(0, .t (.list (l.map fun b => .agg [.int .u8 b]))), (2, .t .nilp), (3, .t (I h)), (4, .t (I k))] ∧ τ = σ) ?_ l.length _ _ ⟨0, _, rfl, Nat.zero_le _, rfl, rfl⟩
  rintro m ⟨vars, scr⟩ τ ⟨k, h, rfl, hk, hv, rfl⟩
  simp only at hv
  subst hv
  by_cases h1 : k < l.length
  ·by_cases h2 : (k : Int) < 4000
   ·repeat apply wS
    refine wR (by simp [h1, h2]; constructor <;> rfl) ?_
    try simp only [tq]
    repeat apply wS
    refine wC (t := true) (by simp) ?_
    simp only [iq]
    refine W_skip ?_
    try simp only [tq]
    repeat apply wS
    refine W_block ?_
    obtain ⟨b, hb⟩ : ∃ b, l[k]? = some b := ⟨l[k]'(by omega), List.getElem?_eq_getElem _⟩
    repeat apply wS
    refine wR (by simp [hb, h1, convV]; constructor <;> rfl) ?_
    try simp only [tq]
    repeat apply wS
    refine wR (by simp [IntWalk.i64_in ((k : Int) + 1) (by omega)]; constructor <;> rfl) ?_
    try simp only [tq]
    exact ⟨l.length - (k + 1), by omega, k + 1, _, rfl, h1, rfl, by simp⟩
   ·repeat apply wS
    refine wR (by simp [h1, h2]; constructor <;> rfl) ?_
    try simp only [tq]
    repeat apply wS
    refine wC (t := false) (by simp) ?_
    simp only [iq]
    repeat apply wS
    refine W_exit ?_
    try simp only [tq, if_true]
    repeat apply wS
    refine wR (by simp [buildV, fieldSizes, fillV]; constructor <;> rfl) ?_
    try simp only [tq]
    refine W_ret ?_
    exact ⟨trivial, _, rfl, _, rfl, rfl⟩
  ·repeat apply wS
   refine wR (by simp [h1]; constructor <;> rfl) ?_
   try simp only [tq]
   repeat apply wS
   refine wC (t := false) (by simp) ?_
   simp only [iq]
   repeat apply wS
   refine W_exit ?_
   try simp only [tq, if_true]
   repeat apply wS
   refine wR (by simp [buildV, fieldSizes, fillV]; constructor <;> rfl) ?_
   try simp only [tq]
   refine W_ret ?_
   exact ⟨trivial, _, rfl, _, rfl, rfl⟩
theorem pickInt_ld {x : T} {l : List Int} (hx : BytesT x l) (hl : (l.length : Int) ≤ 1048576) {σ : Store} {c : Nat} (hC : CurAt σ c x l) {L : List Int} (h0 : 0 < L.length) (h1 : L.length ≤ 256) :
  ∃ s o, LD S 36 [.ptr c 0 0 3, .t (.list (L.map fun s => .agg [I s]))] σ = some (.t (I s), σ.set c o) ∧ s ∈ L ∧ CurO x l o := by
 obtain ⟨r, o, b1, b2, b3⟩ := below_ld hx hl hC h0 h1
 obtain ⟨s, hs⟩ := get_of_lt b2
 suffices hh : ∃ v σ', LV S 36 [.ptr c 0 0 3, .t (.list (L.map fun s => .agg [I s]))] σ = some (v, σ') ∧ v = .t (I s) ∧ σ' = σ.set c o by
  obtain ⟨v, σ', q1, rfl, rfl⟩ := hh
  exact ⟨s, o, by rw [LD_inl (A := A36) rfl rfl rfl]; exact q1, List.mem_of_getElem? hs, b3⟩
 refine LV_bodyX (A := A36) rfl Tryz.func36 rfl ?_
 repeat apply wS
 refine wR (by simp; constructor <;> rfl) ?_
 try simp only [tq]
 repeat apply wS
 refine wR (by simp [b1, hs]; constructor <;> rfl) ?_
 try simp only [tq]
 refine W_ret ?_
 exact ⟨trivial, _, rfl, rfl, rfl⟩
theorem once_ld {x : T} {l : List Int} (hx : BytesT x l) (hl : (l.length : Int) ≤ 1048576) {σ : Store} {c : Nat} (hC : CurAt σ c x l) {n : Nat} (hn : 0 < n) (hn2 : n ≤ 256) :
  ∃ b o, LD S 35 [.ptr c 0 0 3, .t (I n)] σ = some (.t (B b), σ.set c o) ∧ CurO x l o := by
 obtain ⟨r, o, b1, b2, b3⟩ := below_ld hx hl hC hn hn2
 suffices hh : ∃ v σ', LV S 35 [.ptr c 0 0 3, .t (I n)] σ = some (v, σ') ∧ v = .t (B ((r : Int) == 0)) ∧ σ' = σ.set c o by
  obtain ⟨v, σ', q1, rfl, rfl⟩ := hh
  exact ⟨_, o, by rw [LD_inl (A := A35) rfl rfl rfl]; exact q1, b3⟩
 refine LV_bodyX (A := A35) rfl Tryz.func35 rfl ?_
 repeat apply wS
 refine wR (by simp; constructor <;> rfl) ?_
 try simp only [tq]
 repeat apply wS
 refine wR (by simp [b1]; constructor <;> rfl) ?_
 try simp only [tq]
 refine W_ret ?_
 exact ⟨trivial, _, rfl, rfl, rfl⟩
end X
namespace X
attribute [-simp] getElem?_pos
/-! ### A grammar of the list -/
structure PairOk (i : Nat) (s le : List Nat) (sa sb e1 G e2 : T) : Prop where
 split : ∀ σ, LD S 101 [.t (I i)] σ = some (.t (.tup [.str s, .str le]), σ)
 read : ∀ σ, LD S 12 [.t (.str s)] σ = some (.t (.tup [.agg [sa, sb], e1]), σ)
 flat : ∀ σ, LD S 13 [.t (.agg [sa, sb])] σ = some (.t (.tup [G, e2]), σ)
 good : ∃ L, G = .agg [L]
def PairsOk (Q : T → Prop) : Prop := ∀ i, i < 13 → ∃ s le sa sb e1 G e2, PairOk i s le sa sb e1 G e2 ∧ Q G
theorem place_ld {x : T} {l : List Int} (hx : BytesT x l) (hl : (l.length : Int) ≤ 1048576) {σ : Store} {c : Nat} (hC : CurAt σ c x l) :
  ∃ (r : Int) (o : V.Obj), LD S 15 [.ptr c 0 0 3, .t (I 2)] σ = some (.t (I r), σ.set c o) ∧ (-9223372036854775808 ≤ r ∧ r ≤ 9223372036854775807) ∧ CurO x l o := by
 obtain ⟨b, o1, b1, b2⟩ := once_ld hx hl hC (n := 15) (by omega) (by omega)
 have hC1 : CurAt (σ.set c o1) c x l := hC.set b2
 suffices hh : ∃ v σ', LV S 15 [.ptr c 0 0 3, .t (I 2)] σ = some (v, σ') ∧ ∃ (r : Int) (o : V.Obj), v = .t (I r) ∧ σ' = σ.set c o ∧ (-9223372036854775808 ≤ r ∧ r ≤ 9223372036854775807) ∧ CurO x l o by
  obtain ⟨v, σ', q1, r, o, rfl, rfl, q2⟩ := hh
  exact ⟨r, o, by rw [LD_inl (A := A15) rfl rfl rfl]; exact q1, q2⟩
 have b1' : LD S 35 [.ptr c 0 0 3, .t (I 15)] σ = some (.t (B b), σ.set c o1) := b1
 refine LV_bodyX (A := A15) rfl Tryz.func15 rfl ?_
 repeat apply wS
 refine wR (by simp; constructor <;> rfl) ?_
 try simp only [tq]
 repeat apply wS
 refine wR (by simp [b1']; constructor <;> rfl) ?_
 try simp only [tq]
 cases b with
 | true =>
  repeat apply wS
  refine wC (t := true) (by simp) ?_
  simp only [iq]
  obtain ⟨s, o2, p1, p2, p3⟩ := pickInt_ld hx hl hC1 (L := [-1, 2, 3, 9223372036854775807, -9223372036854775808]) (by simp) (by simp)
  simp only [List.map_cons, List.map_nil, List.set_set] at p1
  repeat apply wS
  refine wR (by simp [sliceCells, repZero, chunk, fillV, setRange, show List.range 5 = [0, 1, 2, 3, 4] from rfl, show IntKind.i64.wrap 3 = 3 from IntWalk.i64_in 3 (by omega), p1]; constructor <;> rfl) ?_
  try simp only [tq]
  refine W_ret ?_
  exact ⟨trivial, _, rfl, _, _, rfl, rfl, (by simp only [List.mem_cons, List.not_mem_nil, or_false] at p2; omega), p3⟩
 | false =>
  repeat apply wS
  refine wC (t := false) (by simp) ?_
  simp only [iq]
  refine W_skip ?_
  try simp only [tq]
  obtain ⟨r, o2, p1, p2, p3⟩ := below_ld hx hl hC1 (n := 2) (by omega) (by omega)
  rw [List.set_set] at p1
  have p1' : LD S 37 [.ptr c 0 0 3, .t (I 2)] (σ.set c o1) = some (.t (I r), σ.set c o2) := p1
  repeat apply wS
  refine wR (by simp [p1']; constructor <;> rfl) ?_
  try simp only [tq]
  refine W_ret ?_
  exact ⟨trivial, _, rfl, _, _, rfl, rfl, by omega, p3⟩
end X
