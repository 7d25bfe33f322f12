/- A part of the proof. No statement of the claim is in it. -/
import Derived.Test.YtognnaobhjaoeaaGreatDoorVEg17
open Go Go.V Go.Proofs
namespace X
set_option maxRecDepth 100000
set_option maxHeartbeats 4000000
set_option linter.unusedSimpArgs false
set_option linter.unusedVariables false
attribute [simp] lenV idxV getElem?_pos eqOp
abbrev Str (s : List Nat) : T := .str s
theorem annS (f : FuncId) : S.ann f = annF annL f := rfl

/-- Trees that are a slice of bytes. -/
def BytesT (x : T) (l : List Int) : Prop := (x = .nils ∧ l = []) ∨ x = .list (l.map fun b => .agg [.int .u8 b])
theorem len_bytes {x : T} {l : List Int} (h : BytesT x l) (σ : Store) (e : TypeId) : lenV σ (.slice e) (.t x) = some (l.length : Int) := by
 rcases h with ⟨rfl, rfl⟩ | rfl
 ·rfl
 ·simp [lenV]
theorem idx_bytes {x : T} {l : List Int} (h : BytesT x l) {i : Int} (h0 : 0 ≤ i) (h1 : i < l.length) : ∃ b, idxV 1 (.t x) i = some (.t (.snap [.int .u8 b])) := by
 have h2 : i.toNat < l.length := by omega
 rcases h with ⟨rfl, rfl⟩ | rfl
 ·simp at h2
 ·refine ⟨l[i.toNat], ?_⟩
  simp [idxV, h0, h2]

theorem wrap_u8 (n : Nat) (h : n ≤ 255) : IntKind.i64.wrap (n : Int) = n := IntWalk.i64_in _ (by omega)
@[simp] theorem and255s (n : Nat) : IntKind.i64.wrap ((n &&& 255 % 2 ^ IntKind.i64.bits : Nat) : Int) = ((n % 256 : Nat) : Int) := by
 have e : 255 % 2 ^ IntKind.i64.bits = 2 ^ 8 - 1 := by decide
 rw [e, Nat.and_two_pow_sub_one_eq_mod]
 exact wrap_u8 _ (by omega)

/-- The cursor in memory. -/
abbrev Cur (x : T) (i h : Int) : V.Obj := .cells [.t x, .t (I i), .t (I h)] 0 0

theorem byte_lv (x : T) (l : List Int) (hx : BytesT x l) (i h : Int) (h0 : 0 ≤ i) (h1 : i ≤ l.length) (hl : (l.length : Int) ≤ 1048576) (τ : Store) :
  ∃ v σ', LV S 15 [.ptr 0 0 0 3] (Cur x i h :: τ) = some (v, σ') ∧ ∃ r i' h', v = .t (I r) ∧ σ' = Cur x i' h' :: τ ∧ 0 ≤ r ∧ r ≤ 255 ∧ 0 ≤ i' ∧ i' ≤ l.length := by
 rcases hx with ⟨rfl, rfl⟩ | rfl
 ·refine LV_bodyX (A := A15) rfl Tryz.func15 rfl ?_
  repeat apply W_seq
  refine W_region (by simp; first | exact ⟨rfl, rfl⟩ | exact rfl) ?_
  try simp only [thenQ, blockQ, Ann.kill, List.find?_nil]
  repeat apply W_seq
  refine W_region (by simp; first | exact ⟨rfl, rfl⟩ | exact rfl) ?_
  try simp only [thenQ, blockQ, Ann.kill, List.find?_nil]
  repeat apply W_seq
  refine W_region (by simp; first | exact ⟨rfl, rfl⟩ | exact rfl) ?_
  try simp only [thenQ, blockQ, Ann.kill, List.find?_nil]
  repeat apply W_seq
  refine W_region (by simp; first | exact ⟨rfl, rfl⟩ | exact rfl) ?_
  try simp only [thenQ, blockQ, Ann.kill, List.find?_nil]
  repeat apply W_seq
  refine W_cond (t := false) (by simp [show ¬ i < 0 by omega]) ?_
  simp only [if_true, if_false, Bool.false_eq_true]
  refine W_skip ?_
  try simp only [thenQ, blockQ, Ann.kill, List.find?_nil]
  repeat apply W_seq
  refine W_region (by simp; first | exact ⟨rfl, rfl⟩ | exact rfl) ?_
  try simp only [thenQ, blockQ, Ann.kill, List.find?_nil]
  refine W_ret ?_
  exact ⟨trivial, _, rfl, _, _, _, rfl, rfl, by omega, by omega, by omega, by omega⟩
 ·refine LV_bodyX (A := A15) rfl Tryz.func15 rfl ?_
  repeat apply W_seq
  refine W_region (by simp; first | exact ⟨rfl, rfl⟩ | exact rfl) ?_
  try simp only [thenQ, blockQ, Ann.kill, List.find?_nil]
  repeat apply W_seq
  refine W_region (by simp; first | exact ⟨rfl, rfl⟩ | exact rfl) ?_
  try simp only [thenQ, blockQ, Ann.kill, List.find?_nil]
  repeat apply W_seq
  refine W_region (by simp; first | exact ⟨rfl, rfl⟩ | exact rfl) ?_
  try simp only [thenQ, blockQ, Ann.kill, List.find?_nil]
  repeat apply W_seq
  refine W_region (by simp; first | exact ⟨rfl, rfl⟩ | exact rfl) ?_
  try simp only [thenQ, blockQ, Ann.kill, List.find?_nil]
  by_cases hi : i < l.length
  ·repeat apply W_seq
   refine W_cond (t := true) (by simp [hi]) ?_
   simp only [if_true, if_false, Bool.false_eq_true]
   obtain ⟨b, hb⟩ : ∃ b, l[i.toNat]? = some b := ⟨l[i.toNat]'(by omega), List.getElem?_eq_getElem _⟩
   repeat apply W_seq
   refine W_region (by simp [hb, h0, convV]; first | exact ⟨rfl, rfl⟩ | exact rfl) ?_
   try simp only [thenQ, blockQ, Ann.kill, List.find?_nil]
   repeat apply W_seq
   refine W_region (by simp; first | exact ⟨rfl, rfl⟩ | exact rfl) ?_
   try simp only [thenQ, blockQ, Ann.kill, List.find?_nil]
   repeat apply W_seq
   refine W_region (by simp; first | exact ⟨rfl, rfl⟩ | exact rfl) ?_
   try simp only [thenQ, blockQ, Ann.kill, List.find?_nil]
   refine W_ret ?_
   refine ⟨trivial, _, rfl, _, _, _, rfl, rfl, by omega, by omega, ?_, ?_⟩
   ·rw [IntWalk.i64_in _ (by omega)]; omega
   ·rw [IntWalk.i64_in _ (by omega)]; omega
  ·repeat apply W_seq
   refine W_cond (t := false) (by simp [hi]) ?_
   simp only [if_true, if_false, Bool.false_eq_true]
   refine W_skip ?_
   try simp only [thenQ, blockQ, Ann.kill, List.find?_nil]
   repeat apply W_seq
   refine W_region (by simp; first | exact ⟨rfl, rfl⟩ | exact rfl) ?_
   try simp only [thenQ, blockQ, Ann.kill, List.find?_nil]
   refine W_ret ?_
   exact ⟨trivial, _, rfl, _, _, _, rfl, rfl, by omega, by omega, by omega, by omega⟩

theorem byte_ld {x : T} {l : List Int} (hx : BytesT x l) {i h : Int} (h0 : 0 ≤ i) (h1 : i ≤ l.length) (hl : (l.length : Int) ≤ 1048576) (τ : Store) :
  ∃ r i' h', LD S 15 [.ptr 0 0 0 3] (Cur x i h :: τ) = some (.t (I r), Cur x i' h' :: τ) ∧ 0 ≤ r ∧ r ≤ 255 ∧ 0 ≤ i' ∧ i' ≤ l.length := by
 obtain ⟨v, σ', q1, r, i', h', rfl, rfl, q2⟩ := byte_lv x l hx i h h0 h1 hl τ
 exact ⟨r, i', h', by rw [LD_inl (A := A15) rfl rfl rfl]; exact q1, q2⟩

theorem below_ld {x : T} {l : List Int} (hx : BytesT x l) {i h : Int} (h0 : 0 ≤ i) (h1 : i ≤ l.length) (hl : (l.length : Int) ≤ 1048576) (τ : Store) :
  ∃ r i' h', LD S 16 [.ptr 0 0 0 3, .t (I 10000)] (Cur x i h :: τ) = some (.t (I r), Cur x i' h' :: τ) ∧ 0 ≤ r ∧ r < 10000 ∧ 0 ≤ i' ∧ i' ≤ l.length := by
 obtain ⟨r1, i1, k1, b1, c1, d1, e1, f1⟩ := byte_ld hx (h := h) h0 h1 hl τ
 obtain ⟨r2, i2, k2, b2, c2, d2, e2, f2⟩ := byte_ld hx (h := k1) e1 f1 hl τ
 obtain ⟨r3, i3, k3, b3, c3, d3, e3, f3⟩ := byte_ld hx (h := k2) e2 f2 hl τ
 obtain ⟨r4, i4, k4, b4, c4, d4, e4, f4⟩ := byte_ld hx (h := k3) e3 f3 hl τ
 suffices hh : ∃ v σ', LV S 16 [.ptr 0 0 0 3, .t (I 10000)] (Cur x i h :: τ) = some (v, σ') ∧ ∃ r i' h', v = .t (I r) ∧ σ' = Cur x i' h' :: τ ∧ 0 ≤ r ∧ r < 10000 ∧ 0 ≤ i' ∧ i' ≤ l.length by
  obtain ⟨v, σ', q1, r, i', h', rfl, rfl, q2⟩ := hh
  exact ⟨r, i', h', by rw [LD_inl (A := A16) rfl rfl rfl]; exact q1, q2⟩
 refine LV_bodyX (A := A16) rfl Tryz.func16 rfl ?_
 repeat apply W_seq
 refine W_region (by simp; first | exact ⟨rfl, rfl⟩ | exact rfl) ?_
 try simp only [thenQ, blockQ, Ann.kill, List.find?_nil]
 repeat apply W_seq
 refine W_region (by simp; first | exact ⟨rfl, rfl⟩ | exact rfl) ?_
 try simp only [thenQ, blockQ, Ann.kill, List.find?_nil]
 repeat apply W_seq
 refine W_cond (t := false) (by simp) ?_
 simp only [if_true, if_false, Bool.false_eq_true]
 refine W_skip ?_
 try simp only [thenQ, blockQ, Ann.kill, List.find?_nil]
 repeat apply W_seq
 refine W_region (by simp; first | exact ⟨rfl, rfl⟩ | exact rfl) ?_
 try simp only [thenQ, blockQ, Ann.kill, List.find?_nil]
 repeat apply W_seq
 refine W_cond (t := false) (by simp) ?_
 simp only [if_true, if_false, Bool.false_eq_true]
 refine W_skip ?_
 try simp only [thenQ, blockQ, Ann.kill, List.find?_nil]
 repeat apply W_seq
 refine W_region (by simp [b1]; first | exact ⟨rfl, rfl⟩ | exact rfl) ?_
 try simp only [thenQ, blockQ, Ann.kill, List.find?_nil]
 repeat apply W_seq
 refine W_region (by simp [b2]; first | exact ⟨rfl, rfl⟩ | exact rfl) ?_
 try simp only [thenQ, blockQ, Ann.kill, List.find?_nil]
 repeat apply W_seq
 refine W_region (by simp [b3]; first | exact ⟨rfl, rfl⟩ | exact rfl) ?_
 try simp only [thenQ, blockQ, Ann.kill, List.find?_nil]
 repeat apply W_seq
 refine W_region (by simp [b4]; first | exact ⟨rfl, rfl⟩ | exact rfl) ?_
 try simp only [thenQ, blockQ, Ann.kill, List.find?_nil]
 repeat apply W_seq
 refine W_region (by simp [IntWalk.i64_in (r1 * 16777216) (by omega), IntWalk.i64_in (r2 * 65536) (by omega), IntWalk.i64_in (r1 * 16777216 + r2 * 65536) (by omega), IntWalk.i64_in (r3 * 256) (by omega), IntWalk.i64_in (r1 * 16777216 + r2 * 65536 + r3 * 256) (by omega), IntWalk.i64_in (r1 * 16777216 + r2 * 65536 + r3 * 256 + r4) (by omega)]; first | exact ⟨rfl, rfl⟩ | exact rfl) ?_
 try simp only [thenQ, blockQ, Ann.kill, List.find?_nil]
 refine W_ret ?_
 exact ⟨trivial, _, rfl, _, _, _, rfl, rfl, Int.tmod_nonneg _ (by omega), Int.tmod_lt_of_pos _ (by omega), e4, f4⟩

theorem new_ld {x : T} {l : List Int} (hx : BytesT x l) (hl : (l.length : Int) ≤ 1048576) : ∃ h, LD S 14 [.t x] [] = some (.ptr 0 0 0 3, [Cur x 0 h]) := by
 suffices hh : ∃ v σ', LV S 14 [.t x] [] = some (v, σ') ∧ ∃ h, v = .ptr 0 0 0 3 ∧ σ' = [Cur x 0 h] by
  obtain ⟨v, σ', q1, h, rfl, rfl⟩ := hh
  exact ⟨h, by rw [LD_inl (A := A14) rfl rfl rfl]; exact q1⟩
 rcases hx with ⟨rfl, rfl⟩ | rfl
 ·refine LV_bodyX (A := A14) rfl Tryz.func14 rfl ?_
  repeat apply W_seq
  refine W_region (by simp; first | exact ⟨rfl, rfl⟩ | exact rfl) ?_
  try simp only [thenQ, blockQ, Ann.kill, List.find?_nil]
  repeat apply W_seq
  refine W_region (by simp; first | exact ⟨rfl, rfl⟩ | exact rfl) ?_
  try simp only [thenQ, blockQ, Ann.kill, List.find?_nil]
  repeat apply W_seq
  refine W_region (by simp; first | exact ⟨rfl, rfl⟩ | exact rfl) ?_
  try simp only [thenQ, blockQ, Ann.kill, List.find?_nil]
  repeat apply W_seq
  refine W_block ?_
  refine W_loop_step ?_
  repeat apply W_seq
  refine W_region (by simp; first | exact ⟨rfl, rfl⟩ | exact rfl) ?_
  try simp only [thenQ, blockQ, Ann.kill, List.find?_nil]
  repeat apply W_seq
  refine W_cond (t := false) (by simp) ?_
  simp only [if_true, if_false, Bool.false_eq_true]
  repeat apply W_seq
  refine W_exit ?_
  try simp only [thenQ, blockQ, if_true, Ann.kill, List.find?_nil]
  repeat apply W_seq
  refine W_region (by simp [buildV, fieldSizes, fillV]; first | exact ⟨rfl, rfl⟩ | exact rfl) ?_
  try simp only [thenQ, blockQ, Ann.kill, List.find?_nil]
  refine W_ret ?_
  exact ⟨trivial, _, rfl, _, rfl, rfl⟩
 ·refine LV_bodyX (A := A14) rfl Tryz.func14 rfl ?_
  repeat apply W_seq
  refine W_region (by simp; first | exact ⟨rfl, rfl⟩ | exact rfl) ?_
  try simp only [thenQ, blockQ, Ann.kill, List.find?_nil]
  repeat apply W_seq
  refine W_region (by simp; first | exact ⟨rfl, rfl⟩ | exact rfl) ?_
  try simp only [thenQ, blockQ, Ann.kill, List.find?_nil]
  repeat apply W_seq
  refine W_region (by simp; first | exact ⟨rfl, rfl⟩ | exact rfl) ?_
  try simp only [thenQ, blockQ, Ann.kill, List.find?_nil]
  repeat apply W_seq
  refine W_block ?_
  refine W_loop (I := fun m st σ => ∃ (k : Nat) (h : Int), m = l.length - k ∧ k ≤ l.length ∧ st.vars = [(0, .t (.list (l.map fun b => .agg [.int .u8 b]))), (2, .t .nilp), (3, .t (I h)), (4, .t (I k))] ∧ σ = []) ?_ l.length _ _ ⟨0, _, rfl, Nat.zero_le _, rfl, rfl⟩
  rintro m ⟨vars, scr⟩ σ ⟨k, h, rfl, hk, hv, rfl⟩
  simp only at hv
  subst hv
  by_cases h1 : k < l.length
  ·by_cases h2 : (k : Int) < 4000
   ·repeat apply W_seq
    refine W_region (by simp [h1, h2]; first | exact ⟨rfl, rfl⟩ | exact rfl) ?_
    try simp only [thenQ, blockQ, Ann.kill, List.find?_nil]
    repeat apply W_seq
    refine W_cond (t := true) (by simp) ?_
    simp only [if_true, if_false, Bool.false_eq_true]
    refine W_skip ?_
    try simp only [thenQ, blockQ, Ann.kill, List.find?_nil]
    repeat apply W_seq
    refine W_block ?_
    obtain ⟨b, hb⟩ : ∃ b, l[k]? = some b := ⟨l[k]'(by omega), List.getElem?_eq_getElem _⟩
    repeat apply W_seq
    refine W_region (by simp [hb, h1, convV]; first | exact ⟨rfl, rfl⟩ | exact rfl) ?_
    try simp only [thenQ, blockQ, Ann.kill, List.find?_nil]
    repeat apply W_seq
    refine W_region (by simp [IntWalk.i64_in ((k : Int) + 1) (by omega)]; first | exact ⟨rfl, rfl⟩ | exact rfl) ?_
    try simp only [thenQ, blockQ, Ann.kill, List.find?_nil]
    exact ⟨l.length - (k + 1), by omega, k + 1, _, rfl, h1, rfl, by simp⟩
   ·repeat apply W_seq
    refine W_region (by simp [h1, h2]; first | exact ⟨rfl, rfl⟩ | exact rfl) ?_
    try simp only [thenQ, blockQ, Ann.kill, List.find?_nil]
    repeat apply W_seq
    refine W_cond (t := false) (by simp) ?_
    simp only [if_true, if_false, Bool.false_eq_true]
    repeat apply W_seq
    refine W_exit ?_
    try simp only [thenQ, blockQ, if_true, Ann.kill, List.find?_nil]
    repeat apply W_seq
    refine W_region (by simp [buildV, fieldSizes, fillV]; first | exact ⟨rfl, rfl⟩ | exact rfl) ?_
    try simp only [thenQ, blockQ, Ann.kill, List.find?_nil]
    refine W_ret ?_
    exact ⟨trivial, _, rfl, _, rfl, rfl⟩
  ·repeat apply W_seq
   refine W_region (by simp [h1]; first | exact ⟨rfl, rfl⟩ | exact rfl) ?_
   try simp only [thenQ, blockQ, Ann.kill, List.find?_nil]
   repeat apply W_seq
   refine W_cond (t := false) (by simp) ?_
   simp only [if_true, if_false, Bool.false_eq_true]
   repeat apply W_seq
   refine W_exit ?_
   try simp only [thenQ, blockQ, if_true, Ann.kill, List.find?_nil]
   repeat apply W_seq
   refine W_region (by simp [buildV, fieldSizes, fillV]; first | exact ⟨rfl, rfl⟩ | exact rfl) ?_
   try simp only [thenQ, blockQ, Ann.kill, List.find?_nil]
   refine W_ret ?_
   exact ⟨trivial, _, rfl, _, rfl, rfl⟩

/-- the numbers of a draw, as cells and as a slice -/
abbrev ps (l : List Int) : List V := l.map fun p => .t (I p)
theorem frzs_ps (d : Nat) (σ : Store) (l : List Int) : frzs (frz (d + 1) σ) (ps l) = some (l.map I) := by
 induction l with
 | nil => rfl
 | cons p l ih => simp only [ps, List.map_cons] at ih ⊢; simp only [frzs, frz_t, ih]
theorem chunk_ps (l : List Int) : chunk 1 l.length (l.map I) = l.map fun p => .agg [I p] := by
 induction l with
 | nil => rfl
 | cons p l ih => simp only [List.length_cons, List.map_cons, chunk, List.take_succ_cons, List.take_zero, List.drop_succ_cons, List.drop_zero, ih]

theorem places_ld {x : T} {l : List Int} (hx : BytesT x l) (hl : (l.length : Int) ≤ 1048576) :
  ∃ p : List Int, p.length = 12 ∧ (∀ q ∈ p, 0 ≤ q ∧ q < 10000) ∧ ∀ σ, LD S 7 [.t x] σ = some (.t (.list (p.map fun q => .agg [I q])), σ) := by
 suffices hh : ∃ v σ', LV S 7 [.t x] [] = some (v, σ') ∧ ∃ (p : List Int) (i h : Int), p.length = 12 ∧ (∀ q ∈ p, 0 ≤ q ∧ q < 10000) ∧ v = .sl 1 12 0 12 1 ∧ σ' = [Cur x i h, .cells (ps p) 12 0] by
  obtain ⟨v, σ', q1, p, i, h, hp, hb, rfl, rfl⟩ := hh
  refine ⟨p, hp, hb, fun σ => LD_pure (A := A7) rfl rfl rfl q1 ?_ σ⟩
  rw [frz_sl (d := 39) (cs := ps p) (gen := 12) (wgen := 0) rfl (by omega) (by omega) (by decide) (by simp [hp]) (ts := p.map I)]
  ·rw [← hp, chunk_ps]
  ·rw [List.drop_zero, List.take_of_length_le (by simp [hp])]
   exact frzs_ps 38 _ p
 obtain ⟨h0, n0⟩ := new_ld hx hl
 refine LV_bodyX (A := A7) rfl Tryz.func7 rfl ?_
 obtain ⟨r1, i1, k1, b1, c1, d1, e1, f1⟩ := byte_ld hx (h := h0) (by omega : (0 : Int) ≤ 0) (by omega) hl []
 repeat apply W_seq
 refine W_region (by simp; first | exact ⟨rfl, rfl⟩ | exact rfl) ?_
 try simp only [thenQ, blockQ, Ann.kill, List.find?_nil]
 repeat apply W_seq
 refine W_region (by simp [n0]; first | exact ⟨rfl, rfl⟩ | exact rfl) ?_
 try simp only [thenQ, blockQ, Ann.kill, List.find?_nil]
 repeat apply W_seq
 refine W_region (by simp [b1]; first | exact ⟨rfl, rfl⟩ | exact rfl) ?_
 try simp only [thenQ, blockQ, Ann.kill, List.find?_nil]
 repeat apply W_seq
 refine W_region (by simp [sliceCells]; first | exact ⟨rfl, rfl⟩ | exact rfl) ?_
 try simp only [thenQ, blockQ, Ann.kill, List.find?_nil]
 repeat apply W_seq
 refine W_region (by simp; first | exact ⟨rfl, rfl⟩ | exact rfl) ?_
 try simp only [thenQ, blockQ, Ann.kill, List.find?_nil]
 repeat apply W_seq
 refine W_block ?_
 refine W_loop (I := fun m st σ => ∃ (k : Nat) (p : List Int) (i h : Int), m = 12 - k ∧ k ≤ 12 ∧ p.length = k ∧ (∀ q ∈ p, 0 ≤ q ∧ q < 10000) ∧ 0 ≤ i ∧ i ≤ l.length ∧
  st.vars = [(0, .t x), (2, .t .nils), (3, .ptr 0 0 0 3), (4, .sl 1 k 0 k 1), (5, .t (I k))] ∧ σ = [Cur x i h, .cells (ps p) k 0]) ?_ 12 _ _ ⟨0, [], _, _, rfl, by omega, rfl, by simp, e1, f1, rfl, rfl⟩
 rintro m ⟨vars, scr⟩ σ ⟨k, p, i, h, rfl, hk, hp, hb, hi0, hi1, hv, rfl⟩
 simp only at hv
 subst hv
 repeat apply W_seq
 refine W_region (by simp; first | exact ⟨rfl, rfl⟩ | exact rfl) ?_
 try simp only [thenQ, blockQ, Ann.kill, List.find?_nil]
 by_cases h1 : k < 12
 ·repeat apply W_seq
  refine W_cond (t := true) (by simp [show (k : Int) < 12 by omega]) ?_
  simp only [if_true, if_false, Bool.false_eq_true]
  refine W_skip ?_
  try simp only [thenQ, blockQ, Ann.kill, List.find?_nil]
  repeat apply W_seq
  refine W_block ?_
  obtain ⟨r, i', h', q1, q2, q3, q4, q5⟩ := below_ld hx (h := h) hi0 hi1 hl [.cells (ps p) k 0]
  repeat apply W_seq
  refine W_region (by simp [q1, sliceCells, fillV, repZero, chunk, appendV, srcCells, rowCells, hp, show (k + 1) * 8 ≤ 140737488355328 by omega]; first | exact ⟨rfl, rfl⟩ | exact rfl) ?_
  try simp only [thenQ, blockQ, Ann.kill, List.find?_nil]
  repeat apply W_seq
  refine W_region (by simp [IntWalk.i64_in ((k : Int) + 1) (by omega)]; first | exact ⟨rfl, rfl⟩ | exact rfl) ?_
  try simp only [thenQ, blockQ, Ann.kill, List.find?_nil]
  refine ⟨12 - (k + 1), by omega, k + 1, p ++ [r], i', h', rfl, h1, by simp [hp], ?_, q4, q5, by simp, by simp⟩
  intro q hq
  rcases List.mem_append.1 hq with hq | hq
  ·exact hb q hq
  ·simp at hq; subst hq; exact ⟨q2, q3⟩
 ·repeat apply W_seq
  refine W_cond (t := false) (by simp [show (12 : Int) ≤ k by omega]) ?_
  simp only [if_true, if_false, Bool.false_eq_true]
  repeat apply W_seq
  refine W_exit ?_
  try simp only [thenQ, blockQ, if_true, Ann.kill, List.find?_nil]
  obtain rfl : k = 12 := by omega
  repeat apply W_seq
  refine W_region (by simp; first | exact ⟨rfl, rfl⟩ | exact rfl) ?_
  try simp only [thenQ, blockQ, Ann.kill, List.find?_nil]
  refine W_ret ?_
  exact ⟨trivial, _, rfl, p, i, h, hp, hb, rfl, rfl⟩
theorem big_ld {x : T} {l : List Int} (hx : BytesT x l) (σ : Store) : LD S 6 [.t x] σ = some (.t (B (decide ((1048576 : Int) < l.length))), σ) := by
 refine LD_pure (A := A6) (v := .t (B (decide ((1048576 : Int) < l.length)))) (σ0 := []) rfl rfl rfl ?_ rfl σ
 rcases hx with ⟨rfl, rfl⟩ | rfl
 ·refine LV_body (A := A6) rfl Tryz.func6 rfl ?_
  repeat apply W_seq
  refine W_region (by simp; first | exact ⟨rfl, rfl⟩ | exact rfl) ?_
  try simp only [thenQ, blockQ, Ann.kill, List.find?_nil]
  repeat apply W_seq
  refine W_region (by simp; first | exact ⟨rfl, rfl⟩ | exact rfl) ?_
  try simp only [thenQ, blockQ, Ann.kill, List.find?_nil]
  refine W_ret ?_
  try simp only [thenQ, blockQ]
  simp [Tryz.f6]
 ·refine LV_body (A := A6) rfl Tryz.func6 rfl ?_
  repeat apply W_seq
  refine W_region (by simp; first | exact ⟨rfl, rfl⟩ | exact rfl) ?_
  try simp only [thenQ, blockQ, Ann.kill, List.find?_nil]
  repeat apply W_seq
  refine W_region (by simp; first | exact ⟨rfl, rfl⟩ | exact rfl) ?_
  try simp only [thenQ, blockQ, Ann.kill, List.find?_nil]
  refine W_ret ?_
  try simp only [thenQ, blockQ]
  simp [Tryz.f6]

theorem get_place {p : List Int} (hl : p.length = 12) (hb : ∀ q ∈ p, 0 ≤ q ∧ q < 10000) (i : Nat) (hi : i < 12) : ∃ q, p[i]? = some q ∧ 0 ≤ q ∧ q < 10000 := by
 have : i < p.length := by omega
 exact ⟨p[i], List.getElem?_eq_getElem this, hb _ (List.getElem_mem this)⟩
theorem tmod_nat {q : Int} (h : 0 ≤ q) (k : Nat) (hk : 0 < k) : ∃ n : Nat, n < k ∧ q.tmod k = n := by
 refine ⟨(q % k).toNat, ?_, ?_⟩
 ·have := Int.emod_lt_of_pos q (show (0 : Int) < k by omega)
  have := Int.emod_nonneg q (show (k : Int) ≠ 0 by omega)
  omega
 ·rw [Int.tmod_eq_emod_of_nonneg h]
  have := Int.emod_nonneg q (show (k : Int) ≠ 0 by omega)
  omega

end X
