/- A part of the proof. No statement of the claim is in it. -/
import Derived.Test.YthpjheboegobkaaVTs18
open Go Go.V Go.Proofs
namespace X
set_option maxRecDepth 100000
set_option maxHeartbeats 4000000
set_option linter.unusedSimpArgs false
set_option linter.unusedVariables false
attribute [-simp] lenV idxV setRange
/-! ### What is put fits -/
def Fits (l : List N) : Prop := l.length ≤ 60 ∧ ∀ n ∈ l, n.fit
theorem kidsF_fit {f : Int → List N → Option (List N)} (hf : ∀ k l l', f k l = some l' → Fits l → Fits l') : ∀ (ks : List Int) (l : List N) (acc : List Int) (l' : List N) (ks' : List Int), kidsF f ks l acc = some (l', ks') → Fits l → Fits l' ∧ ks'.length = acc.length + ks.length
  | [], l, acc, l', ks', h, hl => by
    simp only [kidsF, Option.some.injEq, Prod.mk.injEq] at h
    obtain ⟨rfl, rfl⟩ := h
    exact ⟨hl, by simp⟩
  | k :: r, l, acc, l', ks', h, hl => by
    simp only [kidsF] at h
    split at h
    · cases h
    · rename_i l2 h2
      obtain ⟨h3, h4⟩ := kidsF_fit hf r l2 _ l' ks' h (hf _ _ _ h2 hl)
      refine ⟨h3, ?_⟩
      rw [h4]
      simp only [List.length_append, List.length_cons, List.length_nil]
      omega
theorem ex_fit {nodes : List N} {swap : Int} {g : List N → Option (List N)} (hn : ∀ n ∈ nodes, n.fit) (hg : ∀ l l', g l = some l' → Fits l → Fits l' ∧ l' ≠ []) :
    ∀ (n : Nat) (at_ : Int) (l l' : List N), ex nodes swap g n at_ l = some l' → Fits l → Fits l' ∧ l' ≠ [] := by
  intro n
  induction n with
  | zero => intro at_ l l' h; simp [ex] at h
  | succ n ih =>
    intro at_ l l' h hl
    simp only [ex] at h
    split at h
    · exact hg _ _ h hl
    · split at h
      · cases h
      · rename_i x hx
        split at h
        · cases h
        · rename_i l2 ks h2
          split at h
          · rename_i h60
            cases h
            obtain ⟨h3, h4⟩ := kidsF_fit (fun k a b hh hf => (ih k a b hh hf).1) _ _ _ _ _ h2 hl
            have hxf := hn x (List.mem_of_getElem? hx)
            refine ⟨⟨by simpa using h60, ?_⟩, by simp⟩
            intro y hy
            rcases List.mem_append.1 hy with hy | hy
            · exact h3.2 y hy
            · simp only [List.mem_singleton] at hy
              subst hy
              refine ⟨hxf.1, ?_⟩
              show ks.length ≤ _
              rw [h4]
              simpa using hxf.2
          · cases h
theorem fits_nil : Fits [] := ⟨by simp, by simp⟩
theorem sub_fit {l : List N} {at_ : Int} {r : List N} (hn : ∀ n ∈ l, n.fit) (h : sub l at_ = some r) : Fits r ∧ r ≠ [] := by
  unfold sub at h
  split at h
  · exact ex_fit hn (fun _ _ hh => by cases hh) _ _ _ _ h fits_nil
  · cases h
theorem swp_fit {l m : List N} {at_ : Int} {r : List N} (hn : ∀ n ∈ l, n.fit) (hm : ∀ n ∈ m, n.fit) (h : swp l at_ m = some r) : Fits r ∧ r ≠ [] := by
  unfold swp at h
  split at h
  · exact ex_fit hn (fun _ _ hh hf => ex_fit hm (fun _ _ hh => by cases hh) _ _ _ _ hh hf) _ _ _ _ h fits_nil
  · cases h
theorem endL_bound : ∀ (l : List N) (k : Int), (∀ n ∈ l, n.fit) → endL k l ≤ k + l.length * 2097156
  | [], k, _ => by simp [endL]
  | m :: r, k, h => by
    have h1 := endL_bound r (k + m.size) fun n hn => h n (by simp [hn])
    have h2 := h m (by simp)
    simp only [endL, List.length_cons]
    unfold N.fit at h2
    unfold N.size at h1 ⊢
    omega

/-! ### What the sum of sizes tells -/
theorem szN_fit {left : Int} {m : N} (h0 : 0 ≤ left) (h1 : left ≤ 1048576) (h : ¬ szN left m < 0) : m.fit ∧ 0 ≤ szN left m := by
  refine ⟨?_, by omega⟩
  unfold szN sz at h
  unfold N.fit
  split at h
  · omega
  · rename_i a
    split at h
    · omega
    · rename_i b
      omega
theorem szL_fit : ∀ (l : List N) (left : Int), 0 ≤ left → left ≤ 1048576 → ¬ szL left l < 0 → ∀ m ∈ l, m.fit
  | [], _, _, _, _, m, hm => by cases hm
  | a :: r, left, h0, h1, h, m, hm => by
    simp only [szL] at h
    split at h
    · omega
    · rename_i c
      obtain ⟨h2, h3⟩ := szN_fit h0 h1 c
      rcases List.mem_cons.1 hm with rfl | hm
      · exact h2
      · exact szL_fit r _ h3 (szN_le h1) h m hm
theorem szL_le : ∀ (l : List N) (left : Int), left ≤ 1048576 → szL left l ≤ 1048576
  | [], _, h => h
  | a :: r, left, h => by
    simp only [szL]
    split
    · omega
    · exact szL_le r _ (szN_le h)
theorem szT_fit {l : List N} {left : Int} (h0 : 0 ≤ left) (h1 : left ≤ 1048576) (h : ¬ szT left l < 0) : l.length ≤ 1048576 ∧ (∀ m ∈ l, m.fit) ∧ 0 ≤ szT left l ∧ szT left l ≤ 1048576 := by
  have h5 : szT left l = szS left l := by
    unfold szT at h ⊢
    split at h
    · omega
    · rename_i c; rw [if_neg c]
  rw [h5] at h ⊢
  unfold szS at h ⊢
  split at h
  · omega
  · rename_i c
    rw [if_neg c]
    exact ⟨by omega, szL_fit l _ (by omega) (by omega) h, by omega, szL_le l _ (by omega)⟩

/-! ### Calls of the four -/
theorem TS.frz_sl {σ : Store} {t : Tr} {l : List N} {lo hi : Nat} (h : TS σ t.sl l lo hi) : Go.V.frz 40 σ (.agg [t.sl]) = some (encT l) := by
  rcases h with ⟨h1, _⟩ | ⟨t', h1, h2, h3, h4, rfl⟩
  · cases h1
  · have : Go.V.frz (36 + 3) σ t'.sl = some (Ls (t'.nodes.map Nd.n)) := h2.frz 36
    rw [h1, frz_agg 39, frzs, this]
    simp only [frzs, Option.map_some]
/-- What a fresh one gives: none, or a tree behind the old store. -/
def OutF (σ σ' : Store) (v : V) (r : Option (List N)) : Prop := σ.length ≤ σ'.length ∧ same 0 σ.length σ σ' ∧ match r with
  | none => v = .t (.tup [.agg [.nils], .bool false])
  | some l => ∃ t : Tr, v = .tup [.agg [t.sl], .t (.bool true)] ∧ TS σ' t.sl l σ.length σ'.length
theorem fresh_of {f : FuncId} {A : Ann} (hA : S.ann f = some A) (hp : A.isPure = false) (hq : A.isFresh = true) {args : List V} {σ : Store} {ts : List T} (ha : frzs (Go.V.frz 40 σ) args = some ts) {r : Option (List N)}
    (h : ∃ v σ0, LV S f (ts.map V.t) [] = some (v, σ0) ∧ Out0 σ0 v r) (hr : ∀ l, r = some l → l ≠ []) : ∃ v σ', LD S f args σ = some (v, σ') ∧ OutF σ σ' v r := by
  obtain ⟨v, σ0, h1, w, rfl, h2, h3⟩ := h
  refine ⟨_, _, LD_fresh hA hp hq ha h1, by simp, fun i _ hi => List.getElem?_append_left hi, ?_⟩
  cases r with
  | none =>
    rw [h3 rfl]
    rfl
  | some l =>
    simp only [Option.getD_some] at h2
    obtain ⟨t, rfl⟩ := h2.ne (hr l rfl)
    have := h2.sh (σ := σ)
    refine ⟨t.sh σ.length, ?_, ?_⟩
    · simp [mkTup, mkAgg, allT, shV, shVs, Tr.sh, wipe, flatT]
    · have e : shV σ.length t.sl = (t.sh σ.length).sl := by simp [Tr.sl, Tr.sh, shV]
      rw [← e]
      exact this
