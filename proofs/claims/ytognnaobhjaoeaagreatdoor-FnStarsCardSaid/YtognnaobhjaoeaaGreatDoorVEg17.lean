/- A part of the proof. No statement of the claim is in it. -/
import Derived.Test.YtognnaobhjaoeaaGreatDoorVEgM
import Derived.Test.YtognnaobhjaoeaaGreatDoorTgs
import Derived.Test.YtognnaobhjaoeaaGreatDoorVe
open Go Go.V Go.Proofs
namespace X
set_option maxRecDepth 100000
set_option maxHeartbeats 4000000
set_option linter.unusedSimpArgs false
set_option linter.unusedVariables false
attribute [-simp] lenV idxV getElem?_pos
attribute [simp] List.getElem?_cons_zero List.getElem?_cons_succ
/-! ### Functions of trees, by closed runs -/
theorem run_ld {f : FuncId} {x : FFn} (hx : Entry ixf S x) (hf : x.tag = some f) {A : Ann} (hA : S.ann f = some A) (hp : A.isPure = true) {ts : List T} {r : T} (h : frunX tab 100000 x (ts.map V.t) = some r) (σ : Store) : LD S f (ts.map V.t) σ = some (.t r, σ) :=
 frunX_ld tab_ok hx hf hA hp h σ
theorem dec0 : frunX tab 100000 x112 [.t (.int .i64 (.ofNat 0))] = some (.str [48]) := by kernel_rfl
theorem dec1 : frunX tab 100000 x112 [.t (.int .i64 (.ofNat 1))] = some (.str [49]) := by kernel_rfl
theorem dec2 : frunX tab 100000 x112 [.t (.int .i64 (.ofNat 2))] = some (.str [50]) := by kernel_rfl
theorem dec3 : frunX tab 100000 x112 [.t (.int .i64 (.ofNat 3))] = some (.str [51]) := by kernel_rfl
theorem dec4 : frunX tab 100000 x112 [.t (.int .i64 (.ofNat 4))] = some (.str [52]) := by kernel_rfl
theorem dec5 : frunX tab 100000 x112 [.t (.int .i64 (.ofNat 5))] = some (.str [53]) := by kernel_rfl
theorem dec6 : frunX tab 100000 x112 [.t (.int .i64 (.ofNat 6))] = some (.str [54]) := by kernel_rfl
theorem dec7 : frunX tab 100000 x112 [.t (.int .i64 (.ofNat 7))] = some (.str [55]) := by kernel_rfl
theorem dec8 : frunX tab 100000 x112 [.t (.int .i64 (.ofNat 8))] = some (.str [56]) := by kernel_rfl
theorem dec9 : frunX tab 100000 x112 [.t (.int .i64 (.ofNat 9))] = some (.str [57]) := by kernel_rfl
theorem dec10 : frunX tab 100000 x112 [.t (.int .i64 (.ofNat 10))] = some (.str [49, 48]) := by kernel_rfl
theorem dec11 : frunX tab 100000 x112 [.t (.int .i64 (.ofNat 11))] = some (.str [49, 49]) := by kernel_rfl
theorem dec12 : frunX tab 100000 x112 [.t (.int .i64 (.ofNat 12))] = some (.str [49, 50]) := by kernel_rfl
theorem dec13 : frunX tab 100000 x112 [.t (.int .i64 (.ofNat 13))] = some (.str [49, 51]) := by kernel_rfl
theorem dec14 : frunX tab 100000 x112 [.t (.int .i64 (.ofNat 14))] = some (.str [49, 52]) := by kernel_rfl
theorem dec15 : frunX tab 100000 x112 [.t (.int .i64 (.ofNat 15))] = some (.str [49, 53]) := by kernel_rfl
theorem dec16 : frunX tab 100000 x112 [.t (.int .i64 (.ofNat 16))] = some (.str [49, 54]) := by kernel_rfl
theorem dec17 : frunX tab 100000 x112 [.t (.int .i64 (.ofNat 17))] = some (.str [49, 55]) := by kernel_rfl
theorem dec18 : frunX tab 100000 x112 [.t (.int .i64 (.ofNat 18))] = some (.str [49, 56]) := by kernel_rfl
theorem dec19 : frunX tab 100000 x112 [.t (.int .i64 (.ofNat 19))] = some (.str [49, 57]) := by kernel_rfl
theorem dec20 : frunX tab 100000 x112 [.t (.int .i64 (.ofNat 20))] = some (.str [50, 48]) := by kernel_rfl
def decL : List T := [.str [48], .str [49], .str [50], .str [51], .str [52], .str [53], .str [54], .str [55], .str [56], .str [57], .str [49, 48], .str [49, 49], .str [49, 50], .str [49, 51], .str [49, 52], .str [49, 53], .str [49, 54], .str [49, 55], .str [49, 56], .str [49, 57], .str [50, 48]]
theorem len0 : ∃ k, frunX tab 100000 x95 [.t (.int .u64 (.ofNat 0))] = some (.int .i64 k) := ⟨0, by kernel_rfl⟩
theorem len1 : ∃ k, frunX tab 100000 x95 [.t (.int .u64 (.ofNat 1))] = some (.int .i64 k) := ⟨1, by kernel_rfl⟩
theorem len2 : ∃ k, frunX tab 100000 x95 [.t (.int .u64 (.ofNat 2))] = some (.int .i64 k) := ⟨2, by kernel_rfl⟩
theorem len3 : ∃ k, frunX tab 100000 x95 [.t (.int .u64 (.ofNat 3))] = some (.int .i64 k) := ⟨2, by kernel_rfl⟩
theorem len4 : ∃ k, frunX tab 100000 x95 [.t (.int .u64 (.ofNat 4))] = some (.int .i64 k) := ⟨3, by kernel_rfl⟩
theorem len5 : ∃ k, frunX tab 100000 x95 [.t (.int .u64 (.ofNat 5))] = some (.int .i64 k) := ⟨3, by kernel_rfl⟩
theorem len6 : ∃ k, frunX tab 100000 x95 [.t (.int .u64 (.ofNat 6))] = some (.int .i64 k) := ⟨3, by kernel_rfl⟩
theorem len7 : ∃ k, frunX tab 100000 x95 [.t (.int .u64 (.ofNat 7))] = some (.int .i64 k) := ⟨3, by kernel_rfl⟩
theorem len8 : ∃ k, frunX tab 100000 x95 [.t (.int .u64 (.ofNat 8))] = some (.int .i64 k) := ⟨4, by kernel_rfl⟩
theorem len9 : ∃ k, frunX tab 100000 x95 [.t (.int .u64 (.ofNat 9))] = some (.int .i64 k) := ⟨4, by kernel_rfl⟩
theorem len10 : ∃ k, frunX tab 100000 x95 [.t (.int .u64 (.ofNat 10))] = some (.int .i64 k) := ⟨4, by kernel_rfl⟩
theorem len11 : ∃ k, frunX tab 100000 x95 [.t (.int .u64 (.ofNat 11))] = some (.int .i64 k) := ⟨4, by kernel_rfl⟩
theorem len12 : ∃ k, frunX tab 100000 x95 [.t (.int .u64 (.ofNat 12))] = some (.int .i64 k) := ⟨4, by kernel_rfl⟩
theorem lenOk (n : Nat) (h : n ≤ 12) : LenOk n := by
 have : n = 0 ∨ n = 1 ∨ n = 2 ∨ n = 3 ∨ n = 4 ∨ n = 5 ∨ n = 6 ∨ n = 7 ∨ n = 8 ∨ n = 9 ∨ n = 10 ∨ n = 11 ∨ n = 12 := by omega
 rcases this with rfl | rfl | rfl | rfl | rfl | rfl | rfl | rfl | rfl | rfl | rfl | rfl | rfl
 ·obtain ⟨k, hk⟩ := len0; exact ⟨k, fun σ => run_ld e95 rfl (A := A95) rfl rfl (ts := [_]) hk σ⟩
 ·obtain ⟨k, hk⟩ := len1; exact ⟨k, fun σ => run_ld e95 rfl (A := A95) rfl rfl (ts := [_]) hk σ⟩
 ·obtain ⟨k, hk⟩ := len2; exact ⟨k, fun σ => run_ld e95 rfl (A := A95) rfl rfl (ts := [_]) hk σ⟩
 ·obtain ⟨k, hk⟩ := len3; exact ⟨k, fun σ => run_ld e95 rfl (A := A95) rfl rfl (ts := [_]) hk σ⟩
 ·obtain ⟨k, hk⟩ := len4; exact ⟨k, fun σ => run_ld e95 rfl (A := A95) rfl rfl (ts := [_]) hk σ⟩
 ·obtain ⟨k, hk⟩ := len5; exact ⟨k, fun σ => run_ld e95 rfl (A := A95) rfl rfl (ts := [_]) hk σ⟩
 ·obtain ⟨k, hk⟩ := len6; exact ⟨k, fun σ => run_ld e95 rfl (A := A95) rfl rfl (ts := [_]) hk σ⟩
 ·obtain ⟨k, hk⟩ := len7; exact ⟨k, fun σ => run_ld e95 rfl (A := A95) rfl rfl (ts := [_]) hk σ⟩
 ·obtain ⟨k, hk⟩ := len8; exact ⟨k, fun σ => run_ld e95 rfl (A := A95) rfl rfl (ts := [_]) hk σ⟩
 ·obtain ⟨k, hk⟩ := len9; exact ⟨k, fun σ => run_ld e95 rfl (A := A95) rfl rfl (ts := [_]) hk σ⟩
 ·obtain ⟨k, hk⟩ := len10; exact ⟨k, fun σ => run_ld e95 rfl (A := A95) rfl rfl (ts := [_]) hk σ⟩
 ·obtain ⟨k, hk⟩ := len11; exact ⟨k, fun σ => run_ld e95 rfl (A := A95) rfl rfl (ts := [_]) hk σ⟩
 ·obtain ⟨k, hk⟩ := len12; exact ⟨k, fun σ => run_ld e95 rfl (A := A95) rfl rfl (ts := [_]) hk σ⟩
theorem within0 : frunX tab 100000 x21 [.t (.int .i64 (.ofNat 0)), .t (.int .i64 (.ofNat 0)), .t (.int .i64 (.ofNat 0))] = some (.bool true) := by kernel_rfl
theorem within1 : frunX tab 100000 x21 [.t (.int .i64 (.ofNat 0)), .t (.int .i64 (.ofNat 0)), .t (.int .i64 (.ofNat 1))] = some (.bool true) := by kernel_rfl
theorem within2 : frunX tab 100000 x21 [.t (.int .i64 (.ofNat 0)), .t (.int .i64 (.ofNat 0)), .t (.int .i64 (.ofNat 2))] = some (.bool true) := by kernel_rfl
theorem within3 : frunX tab 100000 x21 [.t (.int .i64 (.ofNat 0)), .t (.int .i64 (.ofNat 0)), .t (.int .i64 (.ofNat 3))] = some (.bool true) := by kernel_rfl
theorem within4 : frunX tab 100000 x21 [.t (.int .i64 (.ofNat 0)), .t (.int .i64 (.ofNat 0)), .t (.int .i64 (.ofNat 4))] = some (.bool true) := by kernel_rfl
theorem within5 : frunX tab 100000 x21 [.t (.int .i64 (.ofNat 0)), .t (.int .i64 (.ofNat 0)), .t (.int .i64 (.ofNat 5))] = some (.bool true) := by kernel_rfl
theorem within6 : frunX tab 100000 x21 [.t (.int .i64 (.ofNat 0)), .t (.int .i64 (.ofNat 0)), .t (.int .i64 (.ofNat 6))] = some (.bool true) := by kernel_rfl
theorem within7 : frunX tab 100000 x21 [.t (.int .i64 (.ofNat 0)), .t (.int .i64 (.ofNat 0)), .t (.int .i64 (.ofNat 7))] = some (.bool true) := by kernel_rfl
theorem within8 : frunX tab 100000 x21 [.t (.int .i64 (.ofNat 0)), .t (.int .i64 (.ofNat 0)), .t (.int .i64 (.ofNat 8))] = some (.bool true) := by kernel_rfl
theorem within9 : frunX tab 100000 x21 [.t (.int .i64 (.ofNat 0)), .t (.int .i64 (.ofNat 0)), .t (.int .i64 (.ofNat 9))] = some (.bool true) := by kernel_rfl
theorem within10 : frunX tab 100000 x21 [.t (.int .i64 (.ofNat 0)), .t (.int .i64 (.ofNat 0)), .t (.int .i64 (.ofNat 10))] = some (.bool true) := by kernel_rfl
theorem within11 : frunX tab 100000 x21 [.t (.int .i64 (.ofNat 0)), .t (.int .i64 (.ofNat 0)), .t (.int .i64 (.ofNat 11))] = some (.bool true) := by kernel_rfl
theorem within12 : frunX tab 100000 x21 [.t (.int .i64 (.ofNat 0)), .t (.int .i64 (.ofNat 0)), .t (.int .i64 (.ofNat 12))] = some (.bool true) := by kernel_rfl
theorem env0 (nm : List Nat) (alts : T) : frunX tab 100000 x64 [.t (.agg [.str nm, .list [], alts]), .t (.list [])] = some (.list []) := by kernel_rfl
theorem text0 : frunX tab 100000 x113 [.t (.list [])] = some (.str []) := by kernel_rfl
theorem args0 (kind here : Int) (nm : List Nat) (bn : T) : frunX tab 100000 x92 [.t (.agg [.int .i64 kind, .str nm, .list [], bn]), .t (.list []), .t (.int .i64 here)] = some (.tup [.list [], .bool true]) := by kernel_rfl
theorem bound0 (kind : Int) (nm took : List Nat) (ax env : T) : frunX tab 100000 x93 [.t (.agg [.int .i64 kind, .str nm, ax, .str []]), .t env, .t (.str took)] = some env := by kernel_rfl
theorem nums_lv {y : T} (hy : Is y []) : LV S 35 [.t y] [] = some (.t (B true), []) := by
 refine LV_body (A := A35) rfl Tryz.func35 rfl ?_
 repeat apply W_seq
 refine W_region (by simp; first | exact ⟨rfl, rfl⟩ | exact rfl) ?_
 try simp only [thenQ, blockQ, Ann.kill, List.find?_nil]
 repeat apply W_seq
 refine W_region (by simp [hy.len]; first | exact ⟨rfl, rfl⟩ | exact rfl) ?_
 try simp only [thenQ, blockQ, Ann.kill, List.find?_nil]
 repeat apply W_seq
 refine W_block ?_
 refine W_loop_step ?_
 repeat apply W_seq
 refine W_region (by simp; first | exact ⟨rfl, rfl⟩ | exact rfl) ?_
 try simp only [thenQ, blockQ, Ann.kill, List.find?_nil]
 repeat apply W_seq
 refine W_cond (t := false) (by simp) ?_
 simp only [if_true, if_false, Bool.false_eq_true]
 repeat apply W_seq
 refine W_exit ?_
 try simp only [thenQ, blockQ, if_true, Ann.kill, List.find?_nil]
 repeat apply W_seq
 refine W_region (by simp; first | exact ⟨rfl, rfl⟩ | exact rfl) ?_
 try simp only [thenQ, blockQ, Ann.kill, List.find?_nil]
 refine W_ret ?_
 try simp only [thenQ, blockQ]
 simp [Tryz.f35]
theorem nums_ld {y : T} (hy : Is y []) (σ : Store) : LD S 35 [.t y] σ = some (.t (B true), σ) := LD_pure (A := A35) (v := .t (B true)) (σ0 := []) rfl rfl rfl (nums_lv hy) rfl σ
/-- what is known of a rule's name -/
def lookN (nm : List Nat) : List (List Nat × Nat) → Option T
 | [] => none
 | (a, n) :: r => match eqL nm a with
  | true => some (.int .i64 (.ofNat n))
  | false => lookN nm r
theorem lookN_some {nm : List Nat} : ∀ {l : List (List Nat × Nat)} {x : T}, lookN nm l = some x → ∃ n, (nm, n) ∈ l ∧ x = .int .i64 (.ofNat n)
 | [], x, h => by cases h
 | (a, n) :: r, x, h => by
  simp only [lookN] at h
  split at h
  ·rename_i e; cases h; exact ⟨n, by rw [eqL_same e]; simp, rfl⟩
  ·obtain ⟨n, h1, h2⟩ := lookN_some h; exact ⟨n, by simp [h1], h2⟩
noncomputable def KG (rules : List T) (ra : List (List Nat × Nat)) (m115 m116 : List (List T × T)) : Nats := fun f ts =>
 match Nat.beq f 112 with | true => memoN decL ts | false => match Nat.beq f 113 with | true => (match ts with | [.list []] => some (.str []) | _ => none) | false => match Nat.beq f 92 with | true => (match ts with | [.agg [.int .i64 _, .str _, .list [], _], .list [], .int .i64 _] => some (.tup [.list [], .bool true]) | _ => none) | false => match Nat.beq f 93 with | true => (match ts with | [.agg [.int .i64 _, .str _, _, .str []], env, .str _] => some env | _ => none) | false => match Nat.beq f 115 with | true => memoG m115 ts | false => match Nat.beq f 116 with | true => memoG m116 ts | false => match Nat.beq f 23 with | true => (match ts with | [g, .str nm] => (match eqT g (.agg [.list rules]) with | true => lookN nm ra | false => none) | _ => none) | false => match Nat.beq f 64 with | true => (match ts with | [.agg [.str _, .list [], _], .list []] => some (.list []) | _ => none) | false => match Nat.beq f 13 with | true => (match ts with | [g] => (match eqT g (.agg [.list rules]) with | true => some (.bool true) | false => none) | _ => none) | false => match Nat.beq f 35 with | true => (match ts with | [.nils] => some (.bool true) | [.list []] => some (.bool true) | _ => none) | false => match Nat.beq f 21 with | true => (match ts with | [.int .i64 (.ofNat 0), .int .i64 (.ofNat 0), .int .i64 (.ofNat n)] => (match Nat.ble n 12 with | true => some (.bool true) | false => none) | _ => none) | false => none
structure KOk (rules : List T) (ra : List (List Nat × Nat)) (m115 m116 : List (List T × T)) : Prop where
 gok : frunX tab 100000 x13 [.t (.agg [.list rules])] = some (.bool true)
 rule : ∀ p ∈ ra, frunX tab 100000 x23 [.t (.agg [.list rules]), .t (.str p.1)] = some (.int .i64 (.ofNat p.2))
 sets : ∀ p ∈ m115, frunX tab 100000 x115 (p.1.map V.t) = some p.2
 exprs : ∀ p ∈ m116, frunX tab 100000 x116 (p.1.map V.t) = some p.2
theorem KG_ok {rules : List T} {ra : List (List Nat × Nat)} {m115 m116 : List (List T × T)} (h : KOk rules ra m115 m116) : NatOk (KG rules ra m115 m116) := by
 intro f ts x hx σ
 unfold KG at hx
 split at hx
 ·rename_i e
  rw [Nat.eq_of_beq_eq_true e]
  obtain ⟨n, rfl, hn⟩ := memoN_some hx
  have hlt := lt_of_get hn
  have hlt : n < 21 := hlt
  have : n = 0 ∨ n = 1 ∨ n = 2 ∨ n = 3 ∨ n = 4 ∨ n = 5 ∨ n = 6 ∨ n = 7 ∨ n = 8 ∨ n = 9 ∨ n = 10 ∨ n = 11 ∨ n = 12 ∨ n = 13 ∨ n = 14 ∨ n = 15 ∨ n = 16 ∨ n = 17 ∨ n = 18 ∨ n = 19 ∨ n = 20 := by omega
  rcases this with rfl | rfl | rfl | rfl | rfl | rfl | rfl | rfl | rfl | rfl | rfl | rfl | rfl | rfl | rfl | rfl | rfl | rfl | rfl | rfl | rfl
  ·cases hn; exact run_ld e112 rfl (A := A112) rfl rfl (ts := [_]) dec0 σ
  ·cases hn; exact run_ld e112 rfl (A := A112) rfl rfl (ts := [_]) dec1 σ
  ·cases hn; exact run_ld e112 rfl (A := A112) rfl rfl (ts := [_]) dec2 σ
  ·cases hn; exact run_ld e112 rfl (A := A112) rfl rfl (ts := [_]) dec3 σ
  ·cases hn; exact run_ld e112 rfl (A := A112) rfl rfl (ts := [_]) dec4 σ
  ·cases hn; exact run_ld e112 rfl (A := A112) rfl rfl (ts := [_]) dec5 σ
  ·cases hn; exact run_ld e112 rfl (A := A112) rfl rfl (ts := [_]) dec6 σ
  ·cases hn; exact run_ld e112 rfl (A := A112) rfl rfl (ts := [_]) dec7 σ
  ·cases hn; exact run_ld e112 rfl (A := A112) rfl rfl (ts := [_]) dec8 σ
  ·cases hn; exact run_ld e112 rfl (A := A112) rfl rfl (ts := [_]) dec9 σ
  ·cases hn; exact run_ld e112 rfl (A := A112) rfl rfl (ts := [_]) dec10 σ
  ·cases hn; exact run_ld e112 rfl (A := A112) rfl rfl (ts := [_]) dec11 σ
  ·cases hn; exact run_ld e112 rfl (A := A112) rfl rfl (ts := [_]) dec12 σ
  ·cases hn; exact run_ld e112 rfl (A := A112) rfl rfl (ts := [_]) dec13 σ
  ·cases hn; exact run_ld e112 rfl (A := A112) rfl rfl (ts := [_]) dec14 σ
  ·cases hn; exact run_ld e112 rfl (A := A112) rfl rfl (ts := [_]) dec15 σ
  ·cases hn; exact run_ld e112 rfl (A := A112) rfl rfl (ts := [_]) dec16 σ
  ·cases hn; exact run_ld e112 rfl (A := A112) rfl rfl (ts := [_]) dec17 σ
  ·cases hn; exact run_ld e112 rfl (A := A112) rfl rfl (ts := [_]) dec18 σ
  ·cases hn; exact run_ld e112 rfl (A := A112) rfl rfl (ts := [_]) dec19 σ
  ·cases hn; exact run_ld e112 rfl (A := A112) rfl rfl (ts := [_]) dec20 σ
 split at hx
 ·rename_i e
  rw [Nat.eq_of_beq_eq_true e]
  split at hx
  ·cases hx; exact run_ld e113 rfl (A := A113) rfl rfl (ts := [_]) text0 σ
  ·cases hx
 split at hx
 ·rename_i e
  rw [Nat.eq_of_beq_eq_true e]
  split at hx
  ·cases hx; exact run_ld e92 rfl (A := A92) rfl rfl (ts := [_, _, _]) (args0 _ _ _ _) σ
  ·cases hx
 split at hx
 ·rename_i e
  rw [Nat.eq_of_beq_eq_true e]
  split at hx
  ·cases hx; exact run_ld e93 rfl (A := A93) rfl rfl (ts := [_, _, _]) (bound0 _ _ _ _ _) σ
  ·cases hx
 split at hx
 ·rename_i e
  rw [Nat.eq_of_beq_eq_true e]
  exact run_ld e115 rfl (A := A115) rfl rfl (h.sets _ (memoG_some hx)) σ
 split at hx
 ·rename_i e
  rw [Nat.eq_of_beq_eq_true e]
  exact run_ld e116 rfl (A := A116) rfl rfl (h.exprs _ (memoG_some hx)) σ
 split at hx
 ·rename_i e
  rw [Nat.eq_of_beq_eq_true e]
  split at hx
  ·split at hx
   ·rename_i eq
    rw [eqT_eq _ _ eq]
    obtain ⟨n, h1, rfl⟩ := lookN_some hx
    exact run_ld e23 rfl (A := A23) rfl rfl (ts := [_, _]) (h.rule _ h1) σ
   ·cases hx
  ·cases hx
 split at hx
 ·rename_i e
  rw [Nat.eq_of_beq_eq_true e]
  split at hx
  ·cases hx; exact run_ld e64 rfl (A := A64) rfl rfl (ts := [_, _]) (env0 _ _) σ
  ·cases hx
 split at hx
 ·rename_i e
  rw [Nat.eq_of_beq_eq_true e]
  split at hx
  ·split at hx
   ·rename_i eq
    rw [eqT_eq _ _ eq]
    cases hx
    exact run_ld e13 rfl (A := A13) rfl rfl (ts := [_]) h.gok σ
   ·cases hx
  ·cases hx
 split at hx
 ·rename_i e
  rw [Nat.eq_of_beq_eq_true e]
  split at hx
  ·cases hx; exact nums_ld (.inl ⟨rfl, rfl⟩) σ
  ·cases hx; exact nums_ld (.inr rfl) σ
  ·cases hx
 split at hx
 ·rename_i e
  rw [Nat.eq_of_beq_eq_true e]
  split at hx
  ·rename_i n
   split at hx
   ·rename_i hn
    have hn := Nat.le_of_ble_eq_true hn
    cases hx
    have : n = 0 ∨ n = 1 ∨ n = 2 ∨ n = 3 ∨ n = 4 ∨ n = 5 ∨ n = 6 ∨ n = 7 ∨ n = 8 ∨ n = 9 ∨ n = 10 ∨ n = 11 ∨ n = 12 := by omega
    rcases this with rfl | rfl | rfl | rfl | rfl | rfl | rfl | rfl | rfl | rfl | rfl | rfl | rfl
    ·exact run_ld e21 rfl (A := A21) rfl rfl (ts := [_, _, _]) within0 σ
    ·exact run_ld e21 rfl (A := A21) rfl rfl (ts := [_, _, _]) within1 σ
    ·exact run_ld e21 rfl (A := A21) rfl rfl (ts := [_, _, _]) within2 σ
    ·exact run_ld e21 rfl (A := A21) rfl rfl (ts := [_, _, _]) within3 σ
    ·exact run_ld e21 rfl (A := A21) rfl rfl (ts := [_, _, _]) within4 σ
    ·exact run_ld e21 rfl (A := A21) rfl rfl (ts := [_, _, _]) within5 σ
    ·exact run_ld e21 rfl (A := A21) rfl rfl (ts := [_, _, _]) within6 σ
    ·exact run_ld e21 rfl (A := A21) rfl rfl (ts := [_, _, _]) within7 σ
    ·exact run_ld e21 rfl (A := A21) rfl rfl (ts := [_, _, _]) within8 σ
    ·exact run_ld e21 rfl (A := A21) rfl rfl (ts := [_, _, _]) within9 σ
    ·exact run_ld e21 rfl (A := A21) rfl rfl (ts := [_, _, _]) within10 σ
    ·exact run_ld e21 rfl (A := A21) rfl rfl (ts := [_, _, _]) within11 σ
    ·exact run_ld e21 rfl (A := A21) rfl rfl (ts := [_, _, _]) within12 σ
   ·cases hx
  ·cases hx
 ·cases hx
/-- what an engine's run tells: whether all of a text is taken -/
noncomputable def endsL : Option (Option Rn) → Option (List Nat)
 | some none => some []
 | some (some s) => match s.goals with
  | g :: _ => some g.ends
  | [] => none
 | none => none
end X
