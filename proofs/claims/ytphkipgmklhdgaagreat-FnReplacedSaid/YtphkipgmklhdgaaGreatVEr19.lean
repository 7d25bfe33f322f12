/- A part of the proof. No statement of the claim is in it. -/
import Derived.Test.YtphkipgmklhdgaaGreatVEr18
open Go Go.V Go.Proofs
namespace X
set_option maxRecDepth 100000
set_option maxHeartbeats 4000000
set_option linter.unusedSimpArgs false
set_option linter.unusedVariables false
attribute [simp] lenV idxV
/-! ### Draws -/
theorem set_same {α : Type} : ∀ {l : List α} {i : Nat} {a : α}, l[i]? = some a → l.set i a = l
 | x :: r, 0, a, h => by simp at h; simp [h]
 | x :: r, i + 1, a, h => by simp at h; simp [set_same h]
 | [], _, _, h => by simp at h
/-- Trees that are a slice of bytes. -/
def BytesT (x : T) (l : List Int) : Prop := (x = .nils ∧ l = []) ∨ x = .list (l.map fun b => .agg [.int .u8 b])
theorem wrap_u8 (n : Nat) (h : n ≤ 255) : IntKind.i64.wrap (n : Int) = n := IntWalk.i64_in _ (by omega)
@[simp] theorem and255s (n : Nat) : IntKind.i64.wrap ((n &&& 255 % 2 ^ IntKind.i64.bits : Nat) : Int) = ((n % 256 : Nat) : Int) := by
 have e : 255 % 2 ^ IntKind.i64.bits = 2 ^ 8 - 1 := by decide
 rw [e, Nat.and_two_pow_sub_one_eq_mod]
 exact wrap_u8 _ (by omega)
/-- The cursor in memory. -/
abbrev Cur (x : T) (i h : Int) : V.Obj := .cells [.t x, .t (I i), .t (I h)] 0 0
def CurO (x : T) (l : List Int) (o : V.Obj) : Prop := ∃ i h, o = Cur x i h ∧ 0 ≤ i ∧ i ≤ l.length
def CurAt (σ : Store) (c : Nat) (x : T) (l : List Int) : Prop := ∃ o, σ[c]? = some o ∧ CurO x l o
theorem CurAt.set {σ : Store} {c : Nat} {x : T} {l : List Int} (h : CurAt σ c x l) {o : V.Obj} (ho : CurO x l o) : CurAt (σ.set c o) c x l := by
 obtain ⟨o', h1, _⟩ := h
 exact ⟨o, List.getElem?_set_self (lt_of_get h1), ho⟩
theorem CurAt.lt {σ : Store} {c : Nat} {x : T} {l : List Int} (h : CurAt σ c x l) : c < σ.length := by
 obtain ⟨o', h1, _⟩ := h
 exact lt_of_get h1
theorem byte_ld {x : T} {l : List Int} (hx : BytesT x l) (hl : (l.length : Int) ≤ 1048576) {σ : Store} {c : Nat} (hC : CurAt σ c x l) :
  ∃ r o, LD S 20 [.ptr c 0 0 3] σ = some (.t (I r), σ.set c o) ∧ 0 ≤ r ∧ r ≤ 255 ∧ CurO x l o := by
 obtain ⟨_, hc, i, h, rfl, h0, h1⟩ := hC
 have lc := lt_of_get hc
 have hs : ∀ o, (σ.set c o)[c]? = some o := fun o => List.getElem?_set_self lc
 suffices hh : ∃ v σ', LV S 20 [.ptr c 0 0 3] σ = some (v, σ') ∧ ∃ r o, v = .t (I r) ∧ σ' = σ.set c o ∧ 0 ≤ r ∧ r ≤ 255 ∧ CurO x l o by
  obtain ⟨v, σ', q1, r, o, rfl, rfl, q2⟩ := hh
  exact ⟨r, o, by rw [LD_inl (A := A20) rfl rfl rfl]; exact q1, q2⟩
 rcases hx with ⟨rfl, rfl⟩ | rfl
 ·refine LV_bodyX (A := A20) rfl Tryz.func20 rfl ?_
  repeat apply W_seq
  refine W_region (by simp; first | exact ⟨rfl, rfl⟩ | exact rfl) ?_
  try simp only [thenQ, blockQ, Ann.kill, List.find?_nil]
  repeat apply W_seq
  refine W_region (by simp [hc, setRange]; first | exact ⟨rfl, rfl⟩ | exact rfl) ?_
  try simp only [thenQ, blockQ, Ann.kill, List.find?_nil]
  repeat apply W_seq
  refine W_region (by simp [hs]; first | exact ⟨rfl, rfl⟩ | exact rfl) ?_
  try simp only [thenQ, blockQ, Ann.kill, List.find?_nil]
  repeat apply W_seq
  refine W_region (by simp [hs]; first | exact ⟨rfl, rfl⟩ | exact rfl) ?_
  try simp only [thenQ, blockQ, Ann.kill, List.find?_nil]
  repeat apply W_seq
  refine W_cond (t := false) (by simp [show ¬ i < 0 by omega]) ?_
  simp only [if_true, if_false, Bool.false_eq_true]
  refine W_skip ?_
  try simp only [thenQ, blockQ, Ann.kill, List.find?_nil]
  repeat apply W_seq
  refine W_region (by simp; first | exact ⟨rfl, rfl⟩ | exact rfl) ?_
  try simp only [thenQ, blockQ, Ann.kill, List.find?_nil]
  refine W_ret ?_
  exact ⟨trivial, _, rfl, _, _, rfl, rfl, by omega, by omega, ⟨_, _, rfl, by omega, by omega⟩⟩
 ·refine LV_bodyX (A := A20) rfl Tryz.func20 rfl ?_
  repeat apply W_seq
  refine W_region (by simp; first | exact ⟨rfl, rfl⟩ | exact rfl) ?_
  try simp only [thenQ, blockQ, Ann.kill, List.find?_nil]
  repeat apply W_seq
  refine W_region (by simp [hc, setRange]; first | exact ⟨rfl, rfl⟩ | exact rfl) ?_
  try simp only [thenQ, blockQ, Ann.kill, List.find?_nil]
  repeat apply W_seq
  refine W_region (by simp [hs]; first | exact ⟨rfl, rfl⟩ | exact rfl) ?_
  try simp only [thenQ, blockQ, Ann.kill, List.find?_nil]
  repeat apply W_seq
  refine W_region (by simp [hs]; first | exact ⟨rfl, rfl⟩ | exact rfl) ?_
  try simp only [thenQ, blockQ, Ann.kill, List.find?_nil]
  by_cases hi : i < l.length
  ·repeat apply W_seq
   refine W_cond (t := true) (by simp [hi]) ?_
   simp only [if_true, if_false, Bool.false_eq_true]
   obtain ⟨b, hb⟩ : ∃ b, l[i.toNat]? = some b := ⟨l[i.toNat]'(by omega), List.getElem?_eq_getElem _⟩
   repeat apply W_seq
   refine W_region (by simp [hs, hb, h0, convV]; first | exact ⟨rfl, rfl⟩ | exact rfl) ?_
   try simp only [thenQ, blockQ, Ann.kill, List.find?_nil]
   repeat apply W_seq
   refine W_region (by simp [hs, setRange, List.set_set]; first | exact ⟨rfl, rfl⟩ | exact rfl) ?_
   try simp only [thenQ, blockQ, Ann.kill, List.find?_nil]
   repeat apply W_seq
   refine W_region (by simp; first | exact ⟨rfl, rfl⟩ | exact rfl) ?_
   try simp only [thenQ, blockQ, Ann.kill, List.find?_nil]
   refine W_ret ?_
   refine ⟨trivial, _, rfl, _, _, rfl, rfl, by omega, by omega, ⟨_, _, rfl, ?_, ?_⟩⟩
   ·rw [IntWalk.i64_in _ (by omega)]; omega
   ·rw [IntWalk.i64_in _ (by omega)]; omega
  ·repeat apply W_seq
   refine W_cond (t := false) (by simp [hi]) ?_
   simp only [if_true, if_false, Bool.false_eq_true]
   refine W_skip ?_
   try simp only [thenQ, blockQ, Ann.kill, List.find?_nil]
   repeat apply W_seq
   refine W_region (by simp; first | exact ⟨rfl, rfl⟩ | exact rfl) ?_
   try simp only [thenQ, blockQ, Ann.kill, List.find?_nil]
   refine W_ret ?_
   exact ⟨trivial, _, rfl, _, _, rfl, rfl, by omega, by omega, ⟨_, _, rfl, by omega, by omega⟩⟩
/-- a number below another one -/
theorem below_ld {x : T} {l : List Int} (hx : BytesT x l) (hl : (l.length : Int) ≤ 1048576) {σ : Store} {c : Nat} (hC : CurAt σ c x l) {n : Nat} (hn : 0 < n) (hn2 : n ≤ 256) :
  ∃ (r : Nat) (o : V.Obj), LD S 11 [.ptr c 0 0 3, .t (I n)] σ = some (.t (I r), σ.set c o) ∧ r < n ∧ CurO x l o := by
 obtain ⟨r, o, b1, b2, b3, b4⟩ := byte_ld hx hl hC
 obtain ⟨m, hr, hlt⟩ : ∃ m : Nat, r.tmod n = (m : Int) ∧ m < n := by
  refine ⟨(r % n).toNat, ?_, ?_⟩
  ·rw [Int.tmod_eq_emod_of_nonneg b2]
   have := Int.emod_nonneg r (show (n : Int) ≠ 0 by omega)
   omega
  ·have := Int.emod_lt_of_pos r (show (0 : Int) < n by omega)
   have := Int.emod_nonneg r (show (n : Int) ≠ 0 by omega)
   omega
 suffices hh : ∃ v σ', LV S 11 [.ptr c 0 0 3, .t (I n)] σ = some (v, σ') ∧ v = .t (I m) ∧ σ' = σ.set c o by
  obtain ⟨v, σ', q1, rfl, rfl⟩ := hh
  exact ⟨m, o, by rw [LD_inl (A := A11) rfl rfl rfl]; exact q1, hlt, b4⟩
 refine LV_bodyX (A := A11) rfl Tryz.func11 rfl ?_
 repeat apply W_seq
 refine W_region (by simp; first | exact ⟨rfl, rfl⟩ | exact rfl) ?_
 try simp only [thenQ, blockQ, Ann.kill, List.find?_nil]
 repeat apply W_seq
 refine W_region (by simp; first | exact ⟨rfl, rfl⟩ | exact rfl) ?_
 try simp only [thenQ, blockQ, Ann.kill, List.find?_nil]
 repeat apply W_seq
 refine W_cond (t := false) (by simp [show ¬ (n : Int) ≤ 0 by omega, show ¬ n = 0 by omega]) ?_
 simp only [if_true, if_false, Bool.false_eq_true]
 refine W_skip ?_
 try simp only [thenQ, blockQ, Ann.kill, List.find?_nil]
 repeat apply W_seq
 refine W_region (by simp; first | exact ⟨rfl, rfl⟩ | exact rfl) ?_
 try simp only [thenQ, blockQ, Ann.kill, List.find?_nil]
 repeat apply W_seq
 refine W_cond (t := true) (by simp [show (n : Int) ≤ 256 by omega]) ?_
 simp only [if_true, if_false, Bool.false_eq_true]
 repeat apply W_seq
 refine W_region (by simp [b1, hr, show ¬ n = 0 by omega]; first | exact ⟨rfl, rfl⟩ | exact rfl) ?_
 try simp only [thenQ, blockQ, Ann.kill, List.find?_nil]
 refine W_ret ?_
 exact ⟨trivial, _, rfl, rfl, rfl⟩

theorem new_lv {x : T} {l : List Int} (hx : BytesT x l) (hl : (l.length : Int) ≤ 1048576) (σ : Store) : ∃ h, LD S 10 [.t x] σ = some (.ptr σ.length 0 0 3, σ ++ [Cur x 0 h]) := by
 suffices hh : ∃ v σ', LV S 10 [.t x] σ = some (v, σ') ∧ ∃ h, v = .ptr σ.length 0 0 3 ∧ σ' = σ ++ [Cur x 0 h] by
  obtain ⟨v, σ', q1, h, rfl, rfl⟩ := hh
  exact ⟨h, by rw [LD_inl (A := A10) rfl rfl rfl]; exact q1⟩
 rcases hx with ⟨rfl, rfl⟩ | rfl
 ·refine LV_bodyX (A := A10) rfl Tryz.func10 rfl ?_
  repeat apply W_seq
  refine W_region (by simp; first | exact ⟨rfl, rfl⟩ | exact rfl) ?_
  try simp only [thenQ, blockQ, Ann.kill, List.find?_nil]
  repeat apply W_seq
  refine W_region (by simp; first | exact ⟨rfl, rfl⟩ | exact rfl) ?_
  try simp only [thenQ, blockQ, Ann.kill, List.find?_nil]
  repeat apply W_seq
  refine W_region (by simp; first | exact ⟨rfl, rfl⟩ | exact rfl) ?_
  try simp only [thenQ, blockQ, Ann.kill, List.find?_nil]
  repeat apply W_seq
  refine W_block ?_
  refine W_loop_step ?_
  repeat apply W_seq
  refine W_region (by simp; first | exact ⟨rfl, rfl⟩ | exact rfl) ?_
  try simp only [thenQ, blockQ, Ann.kill, List.find?_nil]
  repeat apply W_seq
  refine W_cond (t := false) (by simp) ?_
  simp only [if_true, if_false, Bool.false_eq_true]
  repeat apply W_seq
  refine W_exit ?_
  try simp only [thenQ, blockQ, if_true, Ann.kill, List.find?_nil]
  repeat apply W_seq
  refine W_region (by simp [buildV, fieldSizes, fillV]; first | exact ⟨rfl, rfl⟩ | exact rfl) ?_
  try simp only [thenQ, blockQ, Ann.kill, List.find?_nil]
  refine W_ret ?_
  exact ⟨trivial, _, rfl, _, rfl, rfl⟩
 ·refine LV_bodyX (A := A10) rfl Tryz.func10 rfl ?_
  repeat apply W_seq
  refine W_region (by simp; first | exact ⟨rfl, rfl⟩ | exact rfl) ?_
  try simp only [thenQ, blockQ, Ann.kill, List.find?_nil]
  repeat apply W_seq
  refine W_region (by simp; first | exact ⟨rfl, rfl⟩ | exact rfl) ?_
  try simp only [thenQ, blockQ, Ann.kill, List.find?_nil]
  repeat apply W_seq
  refine W_region (by simp; first | exact ⟨rfl, rfl⟩ | exact rfl) ?_
  try simp only [thenQ, blockQ, Ann.kill, List.find?_nil]
  repeat apply W_seq
  refine W_block ?_
  refine W_loop (I := fun m st τ => ∃ (k : Nat) (h : Int), m = l.length - k ∧ k ≤ l.length ∧ st.vars = [(0, .t (.list (l.map fun b => .agg [.int .u8 b]))), (2, .t .nilp), (3, .t (I h)), (4, .t (I k))] ∧ τ = σ) ?_ l.length _ _ ⟨0, _, rfl, Nat.zero_le _, rfl, rfl⟩
  rintro m ⟨vars, scr⟩ τ ⟨k, h, rfl, hk, hv, rfl⟩
  simp only at hv
  subst hv
  by_cases h1 : k < l.length
  ·by_cases h2 : (k : Int) < 4000
   ·repeat apply W_seq
    refine W_region (by simp [h1, h2]; first | exact ⟨rfl, rfl⟩ | exact rfl) ?_
    try simp only [thenQ, blockQ, Ann.kill, List.find?_nil]
    repeat apply W_seq
    refine W_cond (t := true) (by simp) ?_
    simp only [if_true, if_false, Bool.false_eq_true]
    refine W_skip ?_
    try simp only [thenQ, blockQ, Ann.kill, List.find?_nil]
    repeat apply W_seq
    refine W_block ?_
    obtain ⟨b, hb⟩ : ∃ b, l[k]? = some b := ⟨l[k]'(by omega), List.getElem?_eq_getElem _⟩
    repeat apply W_seq
    refine W_region (by simp [hb, h1, convV]; first | exact ⟨rfl, rfl⟩ | exact rfl) ?_
    try simp only [thenQ, blockQ, Ann.kill, List.find?_nil]
    repeat apply W_seq
    refine W_region (by simp [IntWalk.i64_in ((k : Int) + 1) (by omega)]; first | exact ⟨rfl, rfl⟩ | exact rfl) ?_
    try simp only [thenQ, blockQ, Ann.kill, List.find?_nil]
    exact ⟨l.length - (k + 1), by omega, k + 1, _, rfl, h1, rfl, by simp⟩
   ·repeat apply W_seq
    refine W_region (by simp [h1, h2]; first | exact ⟨rfl, rfl⟩ | exact rfl) ?_
    try simp only [thenQ, blockQ, Ann.kill, List.find?_nil]
    repeat apply W_seq
    refine W_cond (t := false) (by simp) ?_
    simp only [if_true, if_false, Bool.false_eq_true]
    repeat apply W_seq
    refine W_exit ?_
    try simp only [thenQ, blockQ, if_true, Ann.kill, List.find?_nil]
    repeat apply W_seq
    refine W_region (by simp [buildV, fieldSizes, fillV]; first | exact ⟨rfl, rfl⟩ | exact rfl) ?_
    try simp only [thenQ, blockQ, Ann.kill, List.find?_nil]
    refine W_ret ?_
    exact ⟨trivial, _, rfl, _, rfl, rfl⟩
  ·repeat apply W_seq
   refine W_region (by simp [h1]; first | exact ⟨rfl, rfl⟩ | exact rfl) ?_
   try simp only [thenQ, blockQ, Ann.kill, List.find?_nil]
   repeat apply W_seq
   refine W_cond (t := false) (by simp) ?_
   simp only [if_true, if_false, Bool.false_eq_true]
   repeat apply W_seq
   refine W_exit ?_
   try simp only [thenQ, blockQ, if_true, Ann.kill, List.find?_nil]
   repeat apply W_seq
   refine W_region (by simp [buildV, fieldSizes, fillV]; first | exact ⟨rfl, rfl⟩ | exact rfl) ?_
   try simp only [thenQ, blockQ, Ann.kill, List.find?_nil]
   refine W_ret ?_
   exact ⟨trivial, _, rfl, _, rfl, rfl⟩
/-- one of some texts -/
theorem pick_ld {x : T} {l : List Int} (hx : BytesT x l) (hl : (l.length : Int) ≤ 1048576) {σ : Store} {c : Nat} (hC : CurAt σ c x l) {L : List (List Nat)} (h0 : 0 < L.length) (h1 : L.length ≤ 256) :
  ∃ s o, LD S 16 [.ptr c 0 0 3, .t (.list (L.map fun s => .agg [.str s]))] σ = some (.t (.str s), σ.set c o) ∧ s ∈ L ∧ CurO x l o := by
 obtain ⟨r, o, b1, b2, b3⟩ := below_ld hx hl hC h0 h1
 obtain ⟨s, hs⟩ := get_of_lt b2
 suffices hh : ∃ v σ', LV S 16 [.ptr c 0 0 3, .t (.list (L.map fun s => .agg [.str s]))] σ = some (v, σ') ∧ v = .t (.str s) ∧ σ' = σ.set c o by
  obtain ⟨v, σ', q1, rfl, rfl⟩ := hh
  exact ⟨s, o, by rw [LD_inl (A := A16) rfl rfl rfl]; exact q1, List.mem_of_getElem? hs, b3⟩
 refine LV_bodyX (A := A16) rfl Tryz.func16 rfl ?_
 repeat apply W_seq
 refine W_region (by simp; first | exact ⟨rfl, rfl⟩ | exact rfl) ?_
 try simp only [thenQ, blockQ, Ann.kill, List.find?_nil]
 repeat apply W_seq
 refine W_region (by simp [b1, hs]; first | exact ⟨rfl, rfl⟩ | exact rfl) ?_
 try simp only [thenQ, blockQ, Ann.kill, List.find?_nil]
 refine W_ret ?_
 exact ⟨trivial, _, rfl, rfl, rfl⟩
theorem pickInt_ld {x : T} {l : List Int} (hx : BytesT x l) (hl : (l.length : Int) ≤ 1048576) {σ : Store} {c : Nat} (hC : CurAt σ c x l) {L : List Int} (h0 : 0 < L.length) (h1 : L.length ≤ 256) :
  ∃ s o, LD S 19 [.ptr c 0 0 3, .t (.list (L.map fun s => .agg [I s]))] σ = some (.t (I s), σ.set c o) ∧ s ∈ L ∧ CurO x l o := by
 obtain ⟨r, o, b1, b2, b3⟩ := below_ld hx hl hC h0 h1
 obtain ⟨s, hs⟩ := get_of_lt b2
 suffices hh : ∃ v σ', LV S 19 [.ptr c 0 0 3, .t (.list (L.map fun s => .agg [I s]))] σ = some (v, σ') ∧ v = .t (I s) ∧ σ' = σ.set c o by
  obtain ⟨v, σ', q1, rfl, rfl⟩ := hh
  exact ⟨s, o, by rw [LD_inl (A := A19) rfl rfl rfl]; exact q1, List.mem_of_getElem? hs, b3⟩
 refine LV_bodyX (A := A19) rfl Tryz.func19 rfl ?_
 repeat apply W_seq
 refine W_region (by simp; first | exact ⟨rfl, rfl⟩ | exact rfl) ?_
 try simp only [thenQ, blockQ, Ann.kill, List.find?_nil]
 repeat apply W_seq
 refine W_region (by simp [b1, hs]; first | exact ⟨rfl, rfl⟩ | exact rfl) ?_
 try simp only [thenQ, blockQ, Ann.kill, List.find?_nil]
 refine W_ret ?_
 exact ⟨trivial, _, rfl, rfl, rfl⟩
theorem once_ld {x : T} {l : List Int} (hx : BytesT x l) (hl : (l.length : Int) ≤ 1048576) {σ : Store} {c : Nat} (hC : CurAt σ c x l) {n : Nat} (hn : 0 < n) (hn2 : n ≤ 256) :
  ∃ b o, LD S 18 [.ptr c 0 0 3, .t (I n)] σ = some (.t (B b), σ.set c o) ∧ CurO x l o := by
 obtain ⟨r, o, b1, b2, b3⟩ := below_ld hx hl hC hn hn2
 suffices hh : ∃ v σ', LV S 18 [.ptr c 0 0 3, .t (I n)] σ = some (v, σ') ∧ v = .t (B ((r : Int) == 0)) ∧ σ' = σ.set c o by
  obtain ⟨v, σ', q1, rfl, rfl⟩ := hh
  exact ⟨_, o, by rw [LD_inl (A := A18) rfl rfl rfl]; exact q1, b3⟩
 refine LV_bodyX (A := A18) rfl Tryz.func18 rfl ?_
 repeat apply W_seq
 refine W_region (by simp; first | exact ⟨rfl, rfl⟩ | exact rfl) ?_
 try simp only [thenQ, blockQ, Ann.kill, List.find?_nil]
 repeat apply W_seq
 refine W_region (by simp [b1]; first | exact ⟨rfl, rfl⟩ | exact rfl) ?_
 try simp only [thenQ, blockQ, Ann.kill, List.find?_nil]
 refine W_ret ?_
 exact ⟨trivial, _, rfl, rfl, rfl⟩
/-- a text of pieces -/
theorem text_ld {x : T} {l : List Int} (hx : BytesT x l) (hl : (l.length : Int) ≤ 1048576) {σ : Store} {c : Nat} (hC : CurAt σ c x l) :
  ∃ s o, LD S 17 [.ptr c 0 0 3] σ = some (.t (.str s), σ.set c o) ∧ CurO x l o ∧ s.length ≤ 8 ∧ bsB s = true := by
 suffices hh : ∃ v σ', LV S 17 [.ptr c 0 0 3] σ = some (v, σ') ∧ ∃ s o, v = .t (.str s) ∧ σ' = σ.set c o ∧ CurO x l o ∧ s.length ≤ 8 ∧ bsB s = true by
  obtain ⟨v, σ', q1, s, o, rfl, rfl, q2⟩ := hh
  exact ⟨s, o, by rw [LD_inl (A := A17) rfl rfl rfl]; exact q1, q2⟩
 refine LV_bodyX (A := A17) rfl Tryz.func17 rfl ?_
 obtain ⟨o0, hc0, ho0⟩ := hC
 have hset : σ.set c o0 = σ := set_same hc0
 repeat apply W_seq
 refine W_region (by simp; first | exact ⟨rfl, rfl⟩ | exact rfl) ?_
 try simp only [thenQ, blockQ, Ann.kill, List.find?_nil]
 repeat apply W_seq
 refine W_region (by simp; first | exact ⟨rfl, rfl⟩ | exact rfl) ?_
 try simp only [thenQ, blockQ, Ann.kill, List.find?_nil]
 repeat apply W_seq
 refine W_region (by simp; first | exact ⟨rfl, rfl⟩ | exact rfl) ?_
 try simp only [thenQ, blockQ, Ann.kill, List.find?_nil]
 repeat apply W_seq
 refine W_block ?_
 refine W_loop (I := fun m st τ => ∃ (k : Nat) (s : List Nat) (o : V.Obj), m = 7 - k ∧ k ≤ 7 ∧ s.length ≤ 2 * k ∧ bsB s = true ∧ CurO x l o ∧ st.vars = [(0, .ptr c 0 0 3), (2, .t (.str [])), (3, .t (.str s)), (4, .t (I k))] ∧ τ = σ.set c o) ?_ 7 _ _ ⟨0, [], o0, rfl, by omega, by simp, rfl, ho0, rfl, hset.symm⟩
 rintro m ⟨vars, scr⟩ τ ⟨k, s, o, rfl, hk, hs, hb, ho, hv, rfl⟩
 simp only at hv
 subst hv
 have hC1 : CurAt (σ.set c o) c x l := ⟨o, List.getElem?_set_self (lt_of_get hc0), ho⟩
 obtain ⟨r, o1, b1, b2, b3⟩ := below_ld hx hl hC1 (n := 7) (by omega) (by omega)
 rw [List.set_set] at b1
 have b1' : LD S 11 [.ptr c 0 0 3, .t (I 7)] (σ.set c o) = some (.t (I r), σ.set c o1) := b1
 repeat apply W_seq
 refine W_region (by simp [b1']; first | exact ⟨rfl, rfl⟩ | exact rfl) ?_
 try simp only [thenQ, blockQ, Ann.kill, List.find?_nil]
 by_cases c1 : k < r
 ·repeat apply W_seq
  refine W_cond (t := true) (by simp [c1]) ?_
  simp only [if_true, if_false, Bool.false_eq_true]
  refine W_skip ?_
  try simp only [thenQ, blockQ, Ann.kill, List.find?_nil]
  repeat apply W_seq
  refine W_block ?_
  have hC2 : CurAt (σ.set c o1) c x l := ⟨o1, List.getElem?_set_self (lt_of_get hc0), b3⟩
  obtain ⟨p, o2, d1, d2, d3⟩ := pick_ld hx hl hC2 (L := [[97], [98], [97], [97, 98], [49], [50], [43], [40], [41], [51], [58]]) (by decide) (by decide)
  rw [List.set_set] at d1
  simp only [List.map_cons, List.map_nil] at d1
  have hp : p.length ≤ 2 ∧ bsB p = true := by
   simp only [List.mem_cons, List.not_mem_nil, or_false] at d2
   rcases d2 with rfl | rfl | rfl | rfl | rfl | rfl | rfl | rfl | rfl | rfl | rfl <;> decide
  have hlen : (s.length : Int) + p.length ≤ 9223372036854775807 := by omega
  have hlen2 : s.length + p.length ≤ 9223372036854775807 := by omega
  repeat apply W_seq
  refine W_region (by simp [sliceCells, repZero, fillV, setRange, chunk, d1, hlen2]; first | exact ⟨rfl, rfl⟩ | exact rfl) ?_
  try simp only [thenQ, blockQ, Ann.kill, List.find?_nil]
  repeat apply W_seq
  refine W_region (by simp [IntWalk.i64_in ((k : Int) + 1) (by omega)]; first | exact ⟨rfl, rfl⟩ | exact rfl) ?_
  try simp only [thenQ, blockQ, Ann.kill, List.find?_nil]
  refine ⟨7 - (k + 1), by omega, k + 1, s ++ p, o2, rfl, by omega, by simp; omega, ?_, d3, by simp, rfl⟩
  unfold bsB at hb hp ⊢
  rw [List.all_append, hb, hp.2]; rfl
 ·repeat apply W_seq
  refine W_cond (t := false) (by simp [c1]) ?_
  simp only [if_true, if_false, Bool.false_eq_true]
  repeat apply W_seq
  refine W_exit ?_
  try simp only [thenQ, blockQ, if_true, Ann.kill, List.find?_nil]
  repeat apply W_seq
  refine W_region (by simp; first | exact ⟨rfl, rfl⟩ | exact rfl) ?_
  try simp only [thenQ, blockQ, Ann.kill, List.find?_nil]
  by_cases c2 : 8 < s.length
  ·repeat apply W_seq
   refine W_cond (t := true) (by simp [c2, show (8 : Int) < s.length by omega]) ?_
   simp only [if_true, if_false, Bool.false_eq_true]
   have c2' : (8 : Int) ≤ s.length := by omega
   repeat apply W_seq
   refine W_region (by simp [c2']; first | exact ⟨rfl, rfl⟩ | exact rfl) ?_
   try simp only [thenQ, blockQ, Ann.kill, List.find?_nil]
   repeat apply W_seq
   refine W_region (by simp; first | exact ⟨rfl, rfl⟩ | exact rfl) ?_
   try simp only [thenQ, blockQ, Ann.kill, List.find?_nil]
   refine W_ret ?_
   refine ⟨trivial, _, rfl, s.take 8, o1, ?_, rfl, b3, by simp; omega, ?_⟩
   ·simp
   ·exact List.all_eq_true.2 fun y hy => List.all_eq_true.1 hb y (List.mem_of_mem_take hy)
  ·repeat apply W_seq
   refine W_cond (t := false) (by simp [c2, show ¬ (8 : Int) < s.length by omega]) ?_
   simp only [if_true, if_false, Bool.false_eq_true]
   refine W_skip ?_
   try simp only [thenQ, blockQ, Ann.kill, List.find?_nil]
   repeat apply W_seq
   refine W_region (by simp; first | exact ⟨rfl, rfl⟩ | exact rfl) ?_
   try simp only [thenQ, blockQ, Ann.kill, List.find?_nil]
   refine W_ret ?_
   exact ⟨trivial, _, rfl, s, o1, rfl, rfl, b3, by omega, hb⟩
end X
