/- A part of the proof. No statement of the claim is in it. -/
import Derived.Test.YthpjheboegobkaaVTs1
open Go Go.V Go.Proofs
namespace X
set_option maxRecDepth 100000
set_option maxHeartbeats 4000000
set_option linter.unusedSimpArgs false
set_option linter.unusedVariables false
attribute [-simp] lenV idxV
/-- a node, its slices as lists -/
structure N where
  rule : Int
  alt : Int
  args : List Int
  fr : Int
  to : Int
  kids : List Int
abbrev R1 (i : Int) : T := .agg [I i]
abbrev L (l : List Int) : T := .list (l.map R1)
abbrev encC (n : N) : List T := [I n.rule, I n.alt, L n.args, I n.fr, I n.to, L n.kids]
abbrev encN (n : N) : T := .agg (encC n)
abbrev Ls (l : List N) : T := .list (l.map encN)
abbrev encT (l : List N) : T := .agg [Ls l]

/-- a slice's tree is a list, or nil -/
def IsL {α : Type} (x : T) (f : α → T) (l : List α) : Prop := x = .list (l.map f) ∨ (x = .nils ∧ l = [])
theorem IsL.len {α : Type} {x : T} {f : α → T} {l : List α} (h : IsL x f l) (σ : Store) (e : TypeId) : lenV σ (.slice e) (.t x) = some (l.length : Int) := by
  rcases h with rfl | ⟨rfl, rfl⟩ <;> simp
theorem IsL.idx {α : Type} {x : T} {f : α → T} {l : List α} (h : IsL x f l) {k : Nat} {a : α} (hk : l[k]? = some a) {cs : List T} (hf : f a = .agg cs) : idxV cs.length (.t x) (k : Int) = some (.t (.snap cs)) := by
  rcases h with rfl | ⟨rfl, rfl⟩
  · simp [hk, hf]
  · simp at hk

/-- what the sum of sizes leaves -/
def sz (left n : Int) : Int := if left - n < 0 then -1 else left - n
theorem wr {x : Int} (h : -4611686018427387904 ≤ x ∧ x ≤ 4611686018427387904) : IntKind.i64.wrap x = x := IntWalk.i64_in _ (by omega)

theorem szIntS_ld {x : T} {l : List Int} (h : IsL x R1 l) (left : Int) (σ : Store) (hl : l.length ≤ 9223372036854775807) (h0 : 0 ≤ left) (h1 : left ≤ 1048576) :
    LD S 40 [.t x, .t (I left)] σ = some (.t (I (sz left l.length)), σ) := by
  refine LD_pure (A := A40) (v := .t (I (sz left l.length))) (σ0 := []) rfl rfl rfl ?_ rfl σ
  refine LV_body (A := A40) rfl Try.func40 rfl ?_
  repeat apply W_seq
  refine W_region (by simp; first | exact ⟨rfl, rfl⟩ | exact rfl) ?_
  try simp only [thenQ, blockQ, Ann.kill, List.find?_nil]
  repeat apply W_seq
  refine W_region (by simp [h.len]; first | exact ⟨rfl, rfl⟩ | exact rfl) ?_
  try simp only [thenQ, blockQ, Ann.kill, List.find?_nil]
  rw [IntWalk.i64_in _ (by omega)]
  repeat apply W_seq
  refine W_region (by simp; first | exact ⟨rfl, rfl⟩ | exact rfl) ?_
  try simp only [thenQ, blockQ, Ann.kill, List.find?_nil]
  by_cases c : left - l.length < 0
  · repeat apply W_seq
    refine W_cond (t := true) (by simp [c]) ?_
    simp only [if_true, if_false, Bool.false_eq_true]
    repeat apply W_seq
    refine W_region (by simp; first | exact ⟨rfl, rfl⟩ | exact rfl) ?_
    try simp only [thenQ, blockQ, Ann.kill, List.find?_nil]
    refine W_ret ?_
    try simp only [thenQ, blockQ]
    simp [Try.f40, sz, c]
  · repeat apply W_seq
    refine W_cond (t := false) (by simp [c]) ?_
    simp only [if_true, if_false, Bool.false_eq_true]
    refine W_skip ?_
    try simp only [thenQ, blockQ, Ann.kill, List.find?_nil]
    repeat apply W_seq
    refine W_region (by simp; first | exact ⟨rfl, rfl⟩ | exact rfl) ?_
    try simp only [thenQ, blockQ, Ann.kill, List.find?_nil]
    refine W_ret ?_
    try simp only [thenQ, blockQ]
    simp [Try.f40, sz, c]

/-- a node that was handed in: its slices as trees -/
structure LN where
  n : N
  ax : T
  kx : T
abbrev LN.cs (m : LN) : List T := [I m.n.rule, I m.n.alt, m.ax, I m.n.fr, I m.n.to, m.kx]
abbrev LN.enc (m : LN) : T := .agg m.cs
def LN.ok (m : LN) : Prop := IsL m.ax R1 m.n.args ∧ IsL m.kx R1 m.n.kids ∧ m.n.args.length ≤ 9223372036854775807 ∧ m.n.kids.length ≤ 9223372036854775807
def szN (left : Int) (m : N) : Int := if sz left m.args.length < 0 then -1 else if sz (sz left m.args.length) m.kids.length < 0 then -1 else sz (sz left m.args.length) m.kids.length
theorem sz_le {left n : Int} (h : 0 ≤ n) (h1 : left ≤ 1048576) : sz left n ≤ 1048576 := by unfold sz; split <;> omega

theorem szTreeNode_ld {m : LN} (h : m.ok) (left : Int) (σ : Store) (h0 : 0 ≤ left) (h1 : left ≤ 1048576) :
    LD S 33 [.t m.enc, .t (I left)] σ = some (.t (I (szN left m.n)), σ) := by
  refine LD_pure (A := A33) (v := .t (I (szN left m.n))) (σ0 := [.cells (m.cs.map V.t) 0 0]) rfl rfl rfl ?_ rfl σ
  refine LV_body (A := A33) rfl Try.func33 rfl ?_
  repeat apply W_seq
  refine W_region (by simp; first | exact ⟨rfl, rfl⟩ | exact rfl) ?_
  try simp only [thenQ, blockQ, Ann.kill, List.find?_nil]
  repeat apply W_seq
  refine W_region (by simp [szIntS_ld h.1 left _ h.2.2.1 h0 h1]; first | exact ⟨rfl, rfl⟩ | exact rfl) ?_
  try simp only [thenQ, blockQ, Ann.kill, List.find?_nil]
  repeat apply W_seq
  refine W_region (by simp; first | exact ⟨rfl, rfl⟩ | exact rfl) ?_
  try simp only [thenQ, blockQ, Ann.kill, List.find?_nil]
  by_cases c : sz left m.n.args.length < 0
  · repeat apply W_seq
    refine W_cond (t := true) (by simp [c]) ?_
    simp only [if_true, if_false, Bool.false_eq_true]
    repeat apply W_seq
    refine W_region (by simp; first | exact ⟨rfl, rfl⟩ | exact rfl) ?_
    try simp only [thenQ, blockQ, Ann.kill, List.find?_nil]
    refine W_ret ?_
    try simp only [thenQ, blockQ]
    simp [Try.f33, szN, c]
  repeat apply W_seq
  refine W_cond (t := false) (by simp [c]) ?_
  simp only [if_true, if_false, Bool.false_eq_true]
  refine W_skip ?_
  try simp only [thenQ, blockQ, Ann.kill, List.find?_nil]
  repeat apply W_seq
  refine W_region (by simp [szIntS_ld h.2.1 (sz left m.n.args.length) _ h.2.2.2 (by omega) (sz_le (by omega) h1)]; first | exact ⟨rfl, rfl⟩ | exact rfl) ?_
  try simp only [thenQ, blockQ, Ann.kill, List.find?_nil]
  repeat apply W_seq
  refine W_region (by simp; first | exact ⟨rfl, rfl⟩ | exact rfl) ?_
  try simp only [thenQ, blockQ, Ann.kill, List.find?_nil]
  by_cases c2 : sz (sz left m.n.args.length) m.n.kids.length < 0
  · repeat apply W_seq
    refine W_cond (t := true) (by simp [c2]) ?_
    simp only [if_true, if_false, Bool.false_eq_true]
    repeat apply W_seq
    refine W_region (by simp; first | exact ⟨rfl, rfl⟩ | exact rfl) ?_
    try simp only [thenQ, blockQ, Ann.kill, List.find?_nil]
    refine W_ret ?_
    try simp only [thenQ, blockQ]
    simp [Try.f33, szN, c, c2]
  repeat apply W_seq
  refine W_cond (t := false) (by simp [c2]) ?_
  simp only [if_true, if_false, Bool.false_eq_true]
  refine W_skip ?_
  try simp only [thenQ, blockQ, Ann.kill, List.find?_nil]
  repeat apply W_seq
  refine W_region (by simp; first | exact ⟨rfl, rfl⟩ | exact rfl) ?_
  try simp only [thenQ, blockQ, Ann.kill, List.find?_nil]
  refine W_ret ?_
  try simp only [thenQ, blockQ]
  simp [Try.f33, szN, c, c2]

def szL (left : Int) : List N → Int
  | [] => left
  | m :: r => if szN left m < 0 then -1 else szL (szN left m) r
theorem szN_le {left : Int} {m : N} (h1 : left ≤ 1048576) : szN left m ≤ 1048576 := by
  unfold szN
  split
  · omega
  · split
    · omega
    · exact sz_le (by omega) (sz_le (by omega) h1)
def szS (left : Int) (l : List N) : Int := if left - l.length < 0 then -1 else szL (left - l.length) l

abbrev LNs (l : List LN) : List N := l.map LN.n

theorem szTreeNodeS_ld {x : T} {l : List LN} (h : IsL x LN.enc l) (hn : ∀ m ∈ l, m.ok) (left : Int) (σ : Store) (hl : l.length ≤ 9223372036854775807) (h0 : 0 ≤ left) (h1 : left ≤ 1048576) :
    LD S 23 [.t x, .t (I left)] σ = some (.t (I (szS left (LNs l))), σ) := by
  refine LD_pure (A := A23) (v := .t (I (szS left (LNs l)))) (σ0 := []) rfl rfl rfl ?_ rfl σ
  refine LV_body (A := A23) rfl Try.func23 rfl ?_
  repeat apply W_seq
  refine W_region (by simp; first | exact ⟨rfl, rfl⟩ | exact rfl) ?_
  try simp only [thenQ, blockQ, Ann.kill, List.find?_nil]
  repeat apply W_seq
  refine W_region (by simp [h.len]; first | exact ⟨rfl, rfl⟩ | exact rfl) ?_
  try simp only [thenQ, blockQ, Ann.kill, List.find?_nil]
  rw [IntWalk.i64_in _ (by omega)]
  repeat apply W_seq
  refine W_region (by simp; first | exact ⟨rfl, rfl⟩ | exact rfl) ?_
  try simp only [thenQ, blockQ, Ann.kill, List.find?_nil]
  by_cases c : left - l.length < 0
  · repeat apply W_seq
    refine W_cond (t := true) (by simp [c]) ?_
    simp only [if_true, if_false, Bool.false_eq_true]
    repeat apply W_seq
    refine W_region (by simp; first | exact ⟨rfl, rfl⟩ | exact rfl) ?_
    try simp only [thenQ, blockQ, Ann.kill, List.find?_nil]
    refine W_ret ?_
    try simp only [thenQ, blockQ]
    simp [Try.f23, szS, c]
  repeat apply W_seq
  refine W_cond (t := false) (by simp [c]) ?_
  simp only [if_true, if_false, Bool.false_eq_true]
  refine W_skip ?_
  try simp only [thenQ, blockQ, Ann.kill, List.find?_nil]
  repeat apply W_seq
  refine W_region (by simp; first | exact ⟨rfl, rfl⟩ | exact rfl) ?_
  try simp only [thenQ, blockQ, Ann.kill, List.find?_nil]
  repeat apply W_seq
  refine W_block ?_
  refine W_loop (I := fun m st σ => ∃ (k : Nat) (lf : Int), m = l.length - k ∧ k ≤ l.length ∧ 0 ≤ lf ∧ lf ≤ 1048576 ∧ szL lf (LNs (l.drop k)) = szS left (LNs l) ∧
    st.vars = [(0, .t x), (1, .t (I lf)), (4, .t (I 0)), (5, .t (I k))] ∧ σ = []) ?_ l.length _ _ ⟨0, left - l.length, rfl, Nat.zero_le _, by omega, by omega, by simp [szS, c], by simp, rfl⟩
  rintro m ⟨vars, scr⟩ σ ⟨k, lf, rfl, hk, b0, b1, hs, hv, rfl⟩
  simp only at hv
  subst hv
  repeat apply W_seq
  refine W_region (by simp [h.len]; first | exact ⟨rfl, rfl⟩ | exact rfl) ?_
  try simp only [thenQ, blockQ, Ann.kill, List.find?_nil]
  by_cases c1 : k < l.length
  · repeat apply W_seq
    refine W_cond (t := true) (by simp [c1]) ?_
    simp only [if_true, if_false, Bool.false_eq_true]
    refine W_skip ?_
    try simp only [thenQ, blockQ, Ann.kill, List.find?_nil]
    repeat apply W_seq
    refine W_block ?_
    obtain ⟨nd, hp⟩ : ∃ nd, l[k]? = some nd := ⟨l[k], by simp [c1]⟩
    have hmem : nd ∈ l := List.mem_of_getElem? hp
    have hd : l.drop k = nd :: l.drop (k + 1) := by
      rw [List.drop_eq_getElem_cons c1]
      rw [List.getElem?_eq_getElem c1] at hp
      simp at hp
      rw [hp]
    rw [hd] at hs
    simp only [LNs, List.map_cons, szL] at hs
    have hi : idxV 6 (.t x) (k : Int) = some (.t (.snap nd.cs)) := h.idx hp rfl
    repeat apply W_seq
    refine W_region (by simp [hi, szTreeNode_ld (hn nd hmem) lf _ b0 b1]; first | exact ⟨rfl, rfl⟩ | exact rfl) ?_
    try simp only [thenQ, blockQ, Ann.kill, List.find?_nil]
    repeat apply W_seq
    refine W_region (by simp; first | exact ⟨rfl, rfl⟩ | exact rfl) ?_
    try simp only [thenQ, blockQ, Ann.kill, List.find?_nil]
    by_cases c2 : szN lf nd.n < 0
    · rw [if_pos c2] at hs
      repeat apply W_seq
      refine W_cond (t := true) (by simp [c2]) ?_
      simp only [if_true, if_false, Bool.false_eq_true]
      repeat apply W_seq
      refine W_region (by simp; first | exact ⟨rfl, rfl⟩ | exact rfl) ?_
      try simp only [thenQ, blockQ, Ann.kill, List.find?_nil]
      refine W_ret ?_
      try simp only [thenQ, blockQ]
      simp [Try.f23, ← hs]
    · rw [if_neg c2] at hs
      repeat apply W_seq
      refine W_cond (t := false) (by simp [c2]) ?_
      simp only [if_true, if_false, Bool.false_eq_true]
      refine W_skip ?_
      try simp only [thenQ, blockQ, Ann.kill, List.find?_nil]
      repeat apply W_seq
      refine W_region (by simp [IntWalk.i64_in ((k : Int) + 1) (by omega)]; first | exact ⟨rfl, rfl⟩ | exact rfl) ?_
      try simp only [thenQ, blockQ, Ann.kill, List.find?_nil]
      exact ⟨l.length - (k + 1), by omega, k + 1, szN lf nd.n, rfl, c1, by omega, szN_le b1, hs, by simp, by simp⟩
  · repeat apply W_seq
    refine W_cond (t := false) (by simp [c1]) ?_
    simp only [if_true, if_false, Bool.false_eq_true]
    repeat apply W_seq
    refine W_exit ?_
    try simp only [thenQ, blockQ, if_true, Ann.kill, List.find?_nil]
    have hk2 : k = l.length := by omega
    subst hk2
    rw [List.drop_length] at hs
    simp only [LNs, List.map_nil, szL] at hs
    repeat apply W_seq
    refine W_region (by simp; first | exact ⟨rfl, rfl⟩ | exact rfl) ?_
    try simp only [thenQ, blockQ, Ann.kill, List.find?_nil]
    refine W_ret ?_
    try simp only [thenQ, blockQ]
    simp [Try.f23, ← hs]

def szT (left : Int) (l : List N) : Int := if szS left l < 0 then -1 else szS left l
theorem szTree_ld {x : T} {l : List LN} (h : IsL x LN.enc l) (hn : ∀ m ∈ l, m.ok) (left : Int) (σ : Store) (hl : l.length ≤ 9223372036854775807) (h0 : 0 ≤ left) (h1 : left ≤ 1048576) :
    LD S 11 [.t (.agg [x]), .t (I left)] σ = some (.t (I (szT left (LNs l))), σ) := by
  refine LD_pure (A := A11) (v := .t (I (szT left (LNs l)))) (σ0 := [.cells [.t x] 0 0]) rfl rfl rfl ?_ rfl σ
  refine LV_body (A := A11) rfl Try.func11 rfl ?_
  repeat apply W_seq
  refine W_region (by simp; first | exact ⟨rfl, rfl⟩ | exact rfl) ?_
  try simp only [thenQ, blockQ, Ann.kill, List.find?_nil]
  repeat apply W_seq
  refine W_region (by simp [szTreeNodeS_ld h hn left _ hl h0 h1]; first | exact ⟨rfl, rfl⟩ | exact rfl) ?_
  try simp only [thenQ, blockQ, Ann.kill, List.find?_nil]
  repeat apply W_seq
  refine W_region (by simp; first | exact ⟨rfl, rfl⟩ | exact rfl) ?_
  try simp only [thenQ, blockQ, Ann.kill, List.find?_nil]
  by_cases c : szS left (LNs l) < 0
  · repeat apply W_seq
    refine W_cond (t := true) (by simp [c]) ?_
    simp only [if_true, if_false, Bool.false_eq_true]
    repeat apply W_seq
    refine W_region (by simp; first | exact ⟨rfl, rfl⟩ | exact rfl) ?_
    try simp only [thenQ, blockQ, Ann.kill, List.find?_nil]
    refine W_ret ?_
    try simp only [thenQ, blockQ]
    simp [Try.f11, szT, c]
  repeat apply W_seq
  refine W_cond (t := false) (by simp [c]) ?_
  simp only [if_true, if_false, Bool.false_eq_true]
  refine W_skip ?_
  try simp only [thenQ, blockQ, Ann.kill, List.find?_nil]
  repeat apply W_seq
  refine W_region (by simp; first | exact ⟨rfl, rfl⟩ | exact rfl) ?_
  try simp only [thenQ, blockQ, Ann.kill, List.find?_nil]
  refine W_ret ?_
  try simp only [thenQ, blockQ]
  simp [Try.f11, szT, c]
