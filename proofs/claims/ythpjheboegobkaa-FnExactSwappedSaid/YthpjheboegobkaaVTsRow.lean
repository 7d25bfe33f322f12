/- A part of the proof. No statement of the claim is in it. -/
import Derived.Test.YthpjheboegobkaaVTs1
open Go Go.V Go.Proofs
namespace X
set_option maxRecDepth 100000
theorem ok_ann (l : List (Nat × Ann)) (f : FuncId) (A : Ann) (h : annF l f = some A) : (f, A) ∈ l := by
  induction l with
  | nil => simp [annF] at h
  | cons p r ih =>
    obtain ⟨g, B⟩ := p
    simp only [annF] at h
    split at h
    · rename_i e; subst e; cases h; simp
    · simp [ih h]
theorem sysOk : SysOk S where
  ty := fun _ _ h => h
  mixed := by kernel_rfl
  fn := fun f A h => by
    have := ok_ann _ _ _ (show annF annL f = some A from h)
    simp only [annL, List.mem_cons, Prod.mk.injEq, List.not_mem_nil, or_false] at this
    rcases this with ⟨rfl, rfl⟩ | ⟨rfl, rfl⟩ | ⟨rfl, rfl⟩ | ⟨rfl, rfl⟩ | ⟨rfl, rfl⟩ | ⟨rfl, rfl⟩ | ⟨rfl, rfl⟩ | ⟨rfl, rfl⟩ | ⟨rfl, rfl⟩ | ⟨rfl, rfl⟩ | ⟨rfl, rfl⟩ | ⟨rfl, rfl⟩ | ⟨rfl, rfl⟩ | ⟨rfl, rfl⟩ | ⟨rfl, rfl⟩ | ⟨rfl, rfl⟩ | ⟨rfl, rfl⟩ | ⟨rfl, rfl⟩ | ⟨rfl, rfl⟩ | ⟨rfl, rfl⟩ | ⟨rfl, rfl⟩ | ⟨rfl, rfl⟩ | ⟨rfl, rfl⟩ | ⟨rfl, rfl⟩ | ⟨rfl, rfl⟩ | ⟨rfl, rfl⟩ | ⟨rfl, rfl⟩ | ⟨rfl, rfl⟩ | ⟨rfl, rfl⟩ | ⟨rfl, rfl⟩ | ⟨rfl, rfl⟩ | ⟨rfl, rfl⟩
    · exact ⟨_, _, Try.func4, rfl, by kernel_rfl, by kernel_rfl⟩
    · exact ⟨_, _, Try.func5, rfl, by kernel_rfl, by kernel_rfl⟩
    · exact ⟨_, _, Try.func11, rfl, by kernel_rfl, by kernel_rfl⟩
    · exact ⟨_, _, Try.func12, rfl, by kernel_rfl, by kernel_rfl⟩
    · exact ⟨_, _, Try.func13, rfl, by kernel_rfl, by kernel_rfl⟩
    · exact ⟨_, _, Try.func14, rfl, by kernel_rfl, by kernel_rfl⟩
    · exact ⟨_, _, Try.func15, rfl, by kernel_rfl, by kernel_rfl⟩
    · exact ⟨_, _, Try.func16, rfl, by kernel_rfl, by kernel_rfl⟩
    · exact ⟨_, _, Try.func17, rfl, by kernel_rfl, by kernel_rfl⟩
    · exact ⟨_, _, Try.func18, rfl, by kernel_rfl, by kernel_rfl⟩
    · exact ⟨_, _, Try.func19, rfl, by kernel_rfl, by kernel_rfl⟩
    · exact ⟨_, _, Try.func21, rfl, by kernel_rfl, by kernel_rfl⟩
    · exact ⟨_, _, Try.func23, rfl, by kernel_rfl, by kernel_rfl⟩
    · exact ⟨_, _, Try.func24, rfl, by kernel_rfl, by kernel_rfl⟩
    · exact ⟨_, _, Try.func25, rfl, by kernel_rfl, by kernel_rfl⟩
    · exact ⟨_, _, Try.func26, rfl, by kernel_rfl, by kernel_rfl⟩
    · exact ⟨_, _, Try.func27, rfl, by kernel_rfl, by kernel_rfl⟩
    · exact ⟨_, _, Try.func28, rfl, by kernel_rfl, by kernel_rfl⟩
    · exact ⟨_, _, Try.func29, rfl, by kernel_rfl, by kernel_rfl⟩
    · exact ⟨_, _, Try.func30, rfl, by kernel_rfl, by kernel_rfl⟩
    · exact ⟨_, _, Try.func31, rfl, by kernel_rfl, by kernel_rfl⟩
    · exact ⟨_, _, Try.func32, rfl, by kernel_rfl, by kernel_rfl⟩
    · exact ⟨_, _, Try.func33, rfl, by kernel_rfl, by kernel_rfl⟩
    · exact ⟨_, _, Try.func34, rfl, by kernel_rfl, by kernel_rfl⟩
    · exact ⟨_, _, Try.func35, rfl, by kernel_rfl, by kernel_rfl⟩
    · exact ⟨_, _, Try.func36, rfl, by kernel_rfl, by kernel_rfl⟩
    · exact ⟨_, _, Try.func37, rfl, by kernel_rfl, by kernel_rfl⟩
    · exact ⟨_, _, Try.func38, rfl, by kernel_rfl, by kernel_rfl⟩
    · exact ⟨_, _, Try.func39, rfl, by kernel_rfl, by kernel_rfl⟩
    · exact ⟨_, _, Try.func40, rfl, by kernel_rfl, by kernel_rfl⟩
    · exact ⟨_, _, Try.func41, rfl, by kernel_rfl, by kernel_rfl⟩
    · exact ⟨_, _, Try.func42, rfl, by kernel_rfl, by kernel_rfl⟩
  ext := fun f args σ v σ' _ h => by cases h
  extPure := fun f args σ v σ' _ _ h => by cases h
