/- A part of the proof. No statement of the claim is in it. -/
import Derived.Test.YthfjcnjdcljhmaaGreatDoorTgDraw
import Derived.Test.YthfjcnjdcljhmaaGreatDoorTgs
open Go Go.V Go.Proofs
namespace X
set_option maxRecDepth 100000
set_option maxHeartbeats 4000000
set_option linter.unusedSimpArgs false
set_option linter.unusedVariables false
@[simp] theorem bytes_mk (a : Array UInt8) : V.bytes ⟨a⟩ = a.toList.map UInt8.toNat := rfl
attribute [simp] eqOp

theorem big_ld {x : T} {l : List Int} (hx : BytesT x l) (σ : Store) : LD S 15 [.t x] σ = some (.t (B (decide ((1048576 : Int) < l.length))), σ) := by
  refine LD_pure (A := A15) (v := .t (B (decide ((1048576 : Int) < l.length)))) (σ0 := []) rfl rfl rfl ?_ rfl σ
  rcases hx with ⟨rfl, rfl⟩ | rfl
  · refine LV_body (A := A15) rfl Tryz.func15 rfl ?_
    repeat apply W_seq
    refine W_region (by simp; first | exact ⟨rfl, rfl⟩ | exact rfl) ?_
    try simp only [thenQ, blockQ, Ann.kill, List.find?_nil]
    repeat apply W_seq
    refine W_region (by simp; first | exact ⟨rfl, rfl⟩ | exact rfl) ?_
    try simp only [thenQ, blockQ, Ann.kill, List.find?_nil]
    refine W_ret ?_
    try simp only [thenQ, blockQ]
    simp [Tryz.f15]
  · refine LV_body (A := A15) rfl Tryz.func15 rfl ?_
    repeat apply W_seq
    refine W_region (by simp; first | exact ⟨rfl, rfl⟩ | exact rfl) ?_
    try simp only [thenQ, blockQ, Ann.kill, List.find?_nil]
    repeat apply W_seq
    refine W_region (by simp; first | exact ⟨rfl, rfl⟩ | exact rfl) ?_
    try simp only [thenQ, blockQ, Ann.kill, List.find?_nil]
    refine W_ret ?_
    try simp only [thenQ, blockQ]
    simp [Tryz.f15]

theorem run_ld {f : FuncId} {x : FFn} (hx : Entry ixf S x) (hf : x.tag = some f) {A : Ann} (hA : S.ann f = some A) (hp : A.isPure = true) {ts : List T} {r : T} (h : frunX tab 100000 x (ts.map V.t) = some r) (σ : Store) : LD S f (ts.map V.t) σ = some (.t r, σ) :=
  frunX_ld tab_ok hx hf hA hp h σ

theorem get_place {p : List Int} (hl : p.length = 12) (hb : ∀ q ∈ p, 0 ≤ q ∧ q < 10000) (i : Nat) (hi : i < 12) : ∃ q, p[i]? = some q ∧ 0 ≤ q ∧ q < 10000 := by
  have : i < p.length := by omega
  exact ⟨p[i], List.getElem?_eq_getElem this, hb _ (List.getElem_mem this)⟩
theorem tmod_nat {q : Int} (h : 0 ≤ q) (k : Nat) (hk : 0 < k) : ∃ n : Nat, n < k ∧ q.tmod k = n := by
  refine ⟨(q % k).toNat, ?_, ?_⟩
  · have := Int.emod_lt_of_pos q (show (0 : Int) < k by omega)
    have := Int.emod_nonneg q (show (k : Int) ≠ 0 by omega)
    omega
  · rw [Int.tmod_eq_emod_of_nonneg h]
    have := Int.emod_nonneg q (show (k : Int) ≠ 0 by omega)
    omega

end X
