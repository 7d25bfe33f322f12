/- A part of the proof. No statement of the claim is in it. -/
import Derived.Test.YtojpedmanjlnlaaGreatSc
import Derived.Test.YtojpedmanjlnlaaGreatTps
open Go Go.V Go.Proofs
namespace X
set_option maxRecDepth 100000
set_option maxHeartbeats 4000000
set_option linter.all false
/-! ### What is known, by closed runs -/
theorem qab {f : FuncId} {x : FFn} (hx : Entry ixf S x) (hf : x.tag = some f) {A : Ann} (hA : S.ann f = some A) (hp : A.isPure = true) {ts : List T} {r : T} (h : qaj tab 100000 x (ts.map V.t) = some r) (σ : Store) : LD S f (ts.map V.t) σ = some (.t r, σ) :=
 frunX_ld qiz hx hf hA hp h σ
noncomputable def lookM : List (T × List Bool) → T → Option (List Bool)
 | [], _ => none
 | p :: r, x => match beqT x p.1 with
  | true => some p.2
  | false => lookM r x
theorem qjl {x : T} : ∀ {l : List (T × List Bool)} {ms : List Bool}, lookM l x = some ms → (x, ms) ∈ l
 | [], ms, h => by cases h
 | p :: r, ms, h => by
  simp only [lookM] at h
  split at h
  ·rename_i e
   cases h
   have := qft e
   subst this
   exact List.mem_cons_self ..
  ·exact List.mem_cons_of_mem _ (qjl h)
def qav {α : Type} : List (List Nat × α) → List Nat → Option α
 | [], _ => none
 | p :: r, x => match eqL x p.1 with
  | true => some p.2
  | false => qav r x
theorem qbh {α : Type} {x : List Nat} : ∀ {l : List (List Nat × α)} {y : α}, qav l x = some y → (x, y) ∈ l
 | [], y, h => by cases h
 | p :: r, y, h => by
  simp only [qav] at h
  split at h
  ·rename_i e
   cases h
   have := qfr e
   subst this
   exact List.mem_cons_self ..
  ·exact List.mem_cons_of_mem _ (qbh h)
def memB : List (List Nat) → List Nat → Bool
 | [], _ => false
 | a :: r, x => match eqL x a with
  | true => true
  | false => memB r x
theorem qqj {x : List Nat} : ∀ {l : List (List Nat)}, memB l x = true → x ∈ l
 | [], h => by cases h
 | a :: r, h => by
  simp only [memB] at h
  split at h
  ·rename_i e
   rw [qfr e]
   exact List.mem_cons_self ..
  ·exact List.mem_cons_of_mem _ (qqj h)
def E0 : T := (.agg [(.list [(.agg [(iN 2), (iN 0), (.str [110]), (.list [])])])])
theorem exok0 : qaj tab 100000 x163 [.t E0] = some (.bool true) := by kernel_rfl
theorem marks0 : qaj tab 100000 x164 [.t E0] = some (.list (qdg [true])) := by kernel_rfl
def E1 : T := (.agg [(.list [(.agg [(iN 2), (iN 0), (.str [107]), (.list [])]), (.agg [(iN 1), (iN 0), (.str []), (.list [])]), (.agg [(iN 9), (iN 0), (.str []), (.list [(.agg [(iN 0)]), (.agg [(iN 1)])])])])])
theorem exok1 : qaj tab 100000 x163 [.t E1] = some (.bool true) := by kernel_rfl
theorem marks1 : qaj tab 100000 x164 [.t E1] = some (.list (qdg [true, true, true])) := by kernel_rfl
def E2 : T := (.agg [(.list [(.agg [(iN 1), (iN 0), (.str []), (.list [])]), (.agg [(iN 2), (iN 0), (.str [107]), (.list [])]), (.agg [(iN 8), (iN 0), (.str []), (.list [(.agg [(iN 0)]), (.agg [(iN 1)])])])])])
theorem exok2 : qaj tab 100000 x163 [.t E2] = some (.bool true) := by kernel_rfl
theorem marks2 : qaj tab 100000 x164 [.t E2] = some (.list (qdg [true, true, true])) := by kernel_rfl
def E3 : T := (.agg [(.list [(.agg [(iN 2), (iN 0), (.str [107]), (.list [])]), (.agg [(iN 1), (iN 1), (.str []), (.list [])]), (.agg [(iN 5), (iN 0), (.str []), (.list [(.agg [(iN 0)]), (.agg [(iN 1)])])])])])
theorem exok3 : qaj tab 100000 x163 [.t E3] = some (.bool true) := by kernel_rfl
theorem marks3 : qaj tab 100000 x164 [.t E3] = some (.list (qdg [true, true, true])) := by kernel_rfl
def E4 : T := (.agg [(.list [(.agg [(iN 1), (iN 0), (.str []), (.list [])])])])
theorem exok4 : qaj tab 100000 x163 [.t E4] = some (.bool true) := by kernel_rfl
theorem marks4 : qaj tab 100000 x164 [.t E4] = some (.list (qdg [true])) := by kernel_rfl
def E5 : T := (.agg [(.list [(.agg [(iN 1), (iN 1), (.str []), (.list [])]), (.agg [(iN 2), (iN 0), (.str [112]), (.list [])]), (.agg [(iN 8), (iN 0), (.str []), (.list [(.agg [(iN 0)]), (.agg [(iN 1)])])]), (.agg [(iN 11), (iN 0), (.str []), (.list [(.agg [(iN 2)])])])])])
theorem exok5 : qaj tab 100000 x163 [.t E5] = some (.bool true) := by kernel_rfl
theorem marks5 : qaj tab 100000 x164 [.t E5] = some (.list (qdg [true, true, true, true])) := by kernel_rfl
def E6 : T := (.agg [(.list [(.agg [(iN 1), (iN 1), (.str []), (.list [])])])])
theorem exok6 : qaj tab 100000 x163 [.t E6] = some (.bool true) := by kernel_rfl
theorem marks6 : qaj tab 100000 x164 [.t E6] = some (.list (qdg [true])) := by kernel_rfl
def E7 : T := (.agg [(.list [(.agg [(iN 1), (iN 2), (.str []), (.list [])])])])
theorem exok7 : qaj tab 100000 x163 [.t E7] = some (.bool true) := by kernel_rfl
theorem marks7 : qaj tab 100000 x164 [.t E7] = some (.list (qdg [true])) := by kernel_rfl
def E8 : T := (.agg [(.list [(.agg [(iN 2), (iN 0), (.str [100]), .nils])])])
theorem exok8 : qaj tab 100000 x163 [.t E8] = some (.bool true) := by kernel_rfl
theorem marks8 : qaj tab 100000 x164 [.t E8] = some (.list (qdg [true])) := by kernel_rfl
def E9 : T := (.agg [(.list [(.agg [(iN 2), (iN 0), (.str [100]), (.list [])]), (.agg [(iN 1), (iN 2), (.str []), (.list [])]), (.agg [(iN 9), (iN 0), (.str []), (.list [(.agg [(iN 0)]), (.agg [(iN 1)])])])])])
theorem exok9 : qaj tab 100000 x163 [.t E9] = some (.bool true) := by kernel_rfl
theorem marks9 : qaj tab 100000 x164 [.t E9] = some (.list (qdg [true, true, true])) := by kernel_rfl
def E10 : T := (.agg [(.list [(.agg [(iN 2), (iN 0), (.str [100]), (.list [])]), (.agg [(iN 1), (iN 1), (.str []), (.list [])]), (.agg [(iN 4), (iN 0), (.str []), (.list [(.agg [(iN 0)]), (.agg [(iN 1)])])])])])
theorem exok10 : qaj tab 100000 x163 [.t E10] = some (.bool true) := by kernel_rfl
theorem marks10 : qaj tab 100000 x164 [.t E10] = some (.list (qdg [true, true, true])) := by kernel_rfl
def E11 : T := (.agg [(.list [(.agg [(iN 2), (iN 0), (.str [110]), (.list [])]), (.agg [(iN 2), (iN 0), (.str [109]), (.list [])]), (.agg [(iN 9), (iN 0), (.str []), (.list [(.agg [(iN 0)]), (.agg [(iN 1)])])])])])
theorem exok11 : qaj tab 100000 x163 [.t E11] = some (.bool true) := by kernel_rfl
theorem marks11 : qaj tab 100000 x164 [.t E11] = some (.list (qdg [true, true, true])) := by kernel_rfl
def E12 : T := (.agg [(.list [(.agg [(iN 3), (iN 0), (.str []), (.list [])]), (.agg [(iN 1), (iN 0), (.str []), (.list [])]), (.agg [(iN 9), (iN 0), (.str []), (.list [(.agg [(iN 0)]), (.agg [(iN 1)])])])])])
theorem exok12 : qaj tab 100000 x163 [.t E12] = some (.bool true) := by kernel_rfl
theorem marks12 : qaj tab 100000 x164 [.t E12] = some (.list (qdg [true, true, true])) := by kernel_rfl
def E13 : T := (.agg [(.list [(.agg [(iN 3), (iN 0), (.str []), (.list [])]), (.agg [(iN 1), (iN 3), (.str []), (.list [])]), (.agg [(iN 8), (iN 0), (.str []), (.list [(.agg [(iN 0)]), (.agg [(iN 1)])])])])])
theorem exok13 : qaj tab 100000 x163 [.t E13] = some (.bool true) := by kernel_rfl
theorem marks13 : qaj tab 100000 x164 [.t E13] = some (.list (qdg [true, true, true])) := by kernel_rfl
def E14 : T := (.agg [(.list [(.agg [(iN 2), (iN 0), (.str [120]), .nils])])])
theorem exok14 : qaj tab 100000 x163 [.t E14] = some (.bool true) := by kernel_rfl
theorem marks14 : qaj tab 100000 x164 [.t E14] = some (.list (qdg [true])) := by kernel_rfl
def E15 : T := (.agg [(.list [(.agg [(iN 2), (iN 0), (.str [120]), (.list [])]), (.agg [(iN 1), (iN 5), (.str []), (.list [])]), (.agg [(iN 8), (iN 0), (.str []), (.list [(.agg [(iN 0)]), (.agg [(iN 1)])])])])])
theorem exok15 : qaj tab 100000 x163 [.t E15] = some (.bool true) := by kernel_rfl
theorem marks15 : qaj tab 100000 x164 [.t E15] = some (.list (qdg [true, true, true])) := by kernel_rfl
def E16 : T := (.agg [(.list [(.agg [(iN 1), (iN 4), (.str []), (.list [])]), (.agg [(iN 2), (iN 0), (.str [120]), (.list [])]), (.agg [(iN 8), (iN 0), (.str []), (.list [(.agg [(iN 0)]), (.agg [(iN 1)])])])])])
theorem exok16 : qaj tab 100000 x163 [.t E16] = some (.bool true) := by kernel_rfl
theorem marks16 : qaj tab 100000 x164 [.t E16] = some (.list (qdg [true, true, true])) := by kernel_rfl
def E17 : T := (.agg [(.list [(.agg [(iN 1), (iN 3), (.str []), (.list [])])])])
theorem exok17 : qaj tab 100000 x163 [.t E17] = some (.bool true) := by kernel_rfl
theorem marks17 : qaj tab 100000 x164 [.t E17] = some (.list (qdg [true])) := by kernel_rfl
def E18 : T := (.agg [(.list [(.agg [(iN 2), (iN 0), (.str [110]), (.list [])]), (.agg [(iN 1), (iN 2), (.str []), (.list [])]), (.agg [(iN 7), (iN 0), (.str []), (.list [(.agg [(iN 0)]), (.agg [(iN 1)])])])])])
theorem exok18 : qaj tab 100000 x163 [.t E18] = some (.bool true) := by kernel_rfl
theorem marks18 : qaj tab 100000 x164 [.t E18] = some (.list (qdg [true, true, true])) := by kernel_rfl
def E19 : T := (.agg [(.list [(.agg [(iN 2), (iN 0), (.str [110]), (.list [])]), (.agg [(iN 1), (iN 0), (.str []), (.list [])]), (.agg [(iN 9), (iN 0), (.str []), (.list [(.agg [(iN 0)]), (.agg [(iN 1)])])])])])
theorem exok19 : qaj tab 100000 x163 [.t E19] = some (.bool true) := by kernel_rfl
theorem marks19 : qaj tab 100000 x164 [.t E19] = some (.list (qdg [true, true, true])) := by kernel_rfl
def E20 : T := (.agg [(.list [(.agg [(iN 2), (iN 0), (.str [110]), (.list [])]), (.agg [(iN 1), (iN 9), (.str []), (.list [])]), (.agg [(iN 6), (iN 0), (.str []), (.list [(.agg [(iN 0)]), (.agg [(iN 1)])])])])])
theorem exok20 : qaj tab 100000 x163 [.t E20] = some (.bool true) := by kernel_rfl
theorem marks20 : qaj tab 100000 x164 [.t E20] = some (.list (qdg [true, true, true])) := by kernel_rfl
def mkT : List (T × List Bool) := [(E0, [true]), (E1, [true, true, true]), (E2, [true, true, true]), (E3, [true, true, true]), (E4, [true]), (E5, [true, true, true, true]), (E6, [true]), (E7, [true]), (E8, [true]), (E9, [true, true, true]), (E10, [true, true, true]), (E11, [true, true, true]), (E12, [true, true, true]), (E13, [true, true, true]), (E14, [true]), (E15, [true, true, true]), (E16, [true, true, true]), (E17, [true]), (E18, [true, true, true]), (E19, [true, true, true]), (E20, [true, true, true])]
noncomputable def MKf : T → Option (List Bool) := lookM mkT
theorem qjr : MkOk MKf := by
 constructor
 ·intro x ms h
  have hm := qjl h
  simp only [mkT, List.mem_cons, List.not_mem_nil, or_false, Prod.mk.injEq] at hm
  rcases hm with ⟨rfl, rfl⟩ | ⟨rfl, rfl⟩ | ⟨rfl, rfl⟩ | ⟨rfl, rfl⟩ | ⟨rfl, rfl⟩ | ⟨rfl, rfl⟩ | ⟨rfl, rfl⟩ | ⟨rfl, rfl⟩ | ⟨rfl, rfl⟩ | ⟨rfl, rfl⟩ | ⟨rfl, rfl⟩ | ⟨rfl, rfl⟩ | ⟨rfl, rfl⟩ | ⟨rfl, rfl⟩ | ⟨rfl, rfl⟩ | ⟨rfl, rfl⟩ | ⟨rfl, rfl⟩ | ⟨rfl, rfl⟩ | ⟨rfl, rfl⟩ | ⟨rfl, rfl⟩ | ⟨rfl, rfl⟩
  ·exact fun σ => qab e163 rfl (A := A163) rfl rfl (ts := [E0]) exok0 σ
  ·exact fun σ => qab e163 rfl (A := A163) rfl rfl (ts := [E1]) exok1 σ
  ·exact fun σ => qab e163 rfl (A := A163) rfl rfl (ts := [E2]) exok2 σ
  ·exact fun σ => qab e163 rfl (A := A163) rfl rfl (ts := [E3]) exok3 σ
  ·exact fun σ => qab e163 rfl (A := A163) rfl rfl (ts := [E4]) exok4 σ
  ·exact fun σ => qab e163 rfl (A := A163) rfl rfl (ts := [E5]) exok5 σ
  ·exact fun σ => qab e163 rfl (A := A163) rfl rfl (ts := [E6]) exok6 σ
  ·exact fun σ => qab e163 rfl (A := A163) rfl rfl (ts := [E7]) exok7 σ
  ·exact fun σ => qab e163 rfl (A := A163) rfl rfl (ts := [E8]) exok8 σ
  ·exact fun σ => qab e163 rfl (A := A163) rfl rfl (ts := [E9]) exok9 σ
  ·exact fun σ => qab e163 rfl (A := A163) rfl rfl (ts := [E10]) exok10 σ
  ·exact fun σ => qab e163 rfl (A := A163) rfl rfl (ts := [E11]) exok11 σ
  ·exact fun σ => qab e163 rfl (A := A163) rfl rfl (ts := [E12]) exok12 σ
  ·exact fun σ => qab e163 rfl (A := A163) rfl rfl (ts := [E13]) exok13 σ
  ·exact fun σ => qab e163 rfl (A := A163) rfl rfl (ts := [E14]) exok14 σ
  ·exact fun σ => qab e163 rfl (A := A163) rfl rfl (ts := [E15]) exok15 σ
  ·exact fun σ => qab e163 rfl (A := A163) rfl rfl (ts := [E16]) exok16 σ
  ·exact fun σ => qab e163 rfl (A := A163) rfl rfl (ts := [E17]) exok17 σ
  ·exact fun σ => qab e163 rfl (A := A163) rfl rfl (ts := [E18]) exok18 σ
  ·exact fun σ => qab e163 rfl (A := A163) rfl rfl (ts := [E19]) exok19 σ
  ·exact fun σ => qab e163 rfl (A := A163) rfl rfl (ts := [E20]) exok20 σ
 ·intro x ms h
  have hm := qjl h
  simp only [mkT, List.mem_cons, List.not_mem_nil, or_false, Prod.mk.injEq] at hm
  rcases hm with ⟨rfl, rfl⟩ | ⟨rfl, rfl⟩ | ⟨rfl, rfl⟩ | ⟨rfl, rfl⟩ | ⟨rfl, rfl⟩ | ⟨rfl, rfl⟩ | ⟨rfl, rfl⟩ | ⟨rfl, rfl⟩ | ⟨rfl, rfl⟩ | ⟨rfl, rfl⟩ | ⟨rfl, rfl⟩ | ⟨rfl, rfl⟩ | ⟨rfl, rfl⟩ | ⟨rfl, rfl⟩ | ⟨rfl, rfl⟩ | ⟨rfl, rfl⟩ | ⟨rfl, rfl⟩ | ⟨rfl, rfl⟩ | ⟨rfl, rfl⟩ | ⟨rfl, rfl⟩ | ⟨rfl, rfl⟩
  ·exact fun σ => qab e164 rfl (A := A164) rfl rfl (ts := [E0]) marks0 σ
  ·exact fun σ => qab e164 rfl (A := A164) rfl rfl (ts := [E1]) marks1 σ
  ·exact fun σ => qab e164 rfl (A := A164) rfl rfl (ts := [E2]) marks2 σ
  ·exact fun σ => qab e164 rfl (A := A164) rfl rfl (ts := [E3]) marks3 σ
  ·exact fun σ => qab e164 rfl (A := A164) rfl rfl (ts := [E4]) marks4 σ
  ·exact fun σ => qab e164 rfl (A := A164) rfl rfl (ts := [E5]) marks5 σ
  ·exact fun σ => qab e164 rfl (A := A164) rfl rfl (ts := [E6]) marks6 σ
  ·exact fun σ => qab e164 rfl (A := A164) rfl rfl (ts := [E7]) marks7 σ
  ·exact fun σ => qab e164 rfl (A := A164) rfl rfl (ts := [E8]) marks8 σ
  ·exact fun σ => qab e164 rfl (A := A164) rfl rfl (ts := [E9]) marks9 σ
  ·exact fun σ => qab e164 rfl (A := A164) rfl rfl (ts := [E10]) marks10 σ
  ·exact fun σ => qab e164 rfl (A := A164) rfl rfl (ts := [E11]) marks11 σ
  ·exact fun σ => qab e164 rfl (A := A164) rfl rfl (ts := [E12]) marks12 σ
  ·exact fun σ => qab e164 rfl (A := A164) rfl rfl (ts := [E13]) marks13 σ
  ·exact fun σ => qab e164 rfl (A := A164) rfl rfl (ts := [E14]) marks14 σ
  ·exact fun σ => qab e164 rfl (A := A164) rfl rfl (ts := [E15]) marks15 σ
  ·exact fun σ => qab e164 rfl (A := A164) rfl rfl (ts := [E16]) marks16 σ
  ·exact fun σ => qab e164 rfl (A := A164) rfl rfl (ts := [E17]) marks17 σ
  ·exact fun σ => qab e164 rfl (A := A164) rfl rfl (ts := [E18]) marks18 σ
  ·exact fun σ => qab e164 rfl (A := A164) rfl rfl (ts := [E19]) marks19 σ
  ·exact fun σ => qab e164 rfl (A := A164) rfl rfl (ts := [E20]) marks20 σ
theorem set0 : qaj tab 100000 x121 [.t (.str [48, 45, 57])] = some (.tup [.str [48, 57], .bool true]) := by kernel_rfl
theorem set1 : qaj tab 100000 x121 [.t (.str [97, 98])] = some (.tup [.str [97, 97, 98, 98], .bool true]) := by kernel_rfl
def srT : List (List Nat × List Nat) := [([48, 45, 57], [48, 57]), ([97, 98], [97, 97, 98, 98])]
def SRf : List Nat → Option (List Nat) := qav srT
theorem qjf : qkj SRf := by
 intro s rows h
 have hm := qbh h
 simp only [srT, List.mem_cons, List.not_mem_nil, or_false, Prod.mk.injEq] at hm
 rcases hm with ⟨rfl, rfl⟩ | ⟨rfl, rfl⟩
 ·exact ⟨by decide, fun σ => qab e121 rfl (A := A121) rfl rfl (ts := [.str [48, 45, 57]]) set0 σ⟩
 ·exact ⟨by decide, fun σ => qab e121 rfl (A := A121) rfl rfl (ts := [.str [97, 98]]) set1 σ⟩
theorem name0 : qaj tab 100000 x115 [.t (.str [110])] = some (.bool true) := by kernel_rfl
theorem name1 : qaj tab 100000 x115 [.t (.str [107])] = some (.bool true) := by kernel_rfl
theorem name2 : qaj tab 100000 x115 [.t (.str [112])] = some (.bool true) := by kernel_rfl
theorem name3 : qaj tab 100000 x115 [.t (.str [100])] = some (.bool true) := by kernel_rfl
theorem name4 : qaj tab 100000 x115 [.t (.str [109])] = some (.bool true) := by kernel_rfl
theorem name5 : qaj tab 100000 x115 [.t (.str [120])] = some (.bool true) := by kernel_rfl
def vnT : List (List Nat) := [[110], [107], [112], [100], [109], [120]]
def VNf : List Nat → Bool := memB vnT
theorem qke : NmOk VNf := by
 intro s h
 have hm := qqj h
 simp only [vnT, List.mem_cons, List.not_mem_nil, or_false] at hm
 rcases hm with rfl | rfl | rfl | rfl | rfl | rfl
 ·exact fun σ => qab e115 rfl (A := A115) rfl rfl (ts := [.str [110]]) name0 σ
 ·exact fun σ => qab e115 rfl (A := A115) rfl rfl (ts := [.str [107]]) name1 σ
 ·exact fun σ => qab e115 rfl (A := A115) rfl rfl (ts := [.str [112]]) name2 σ
 ·exact fun σ => qab e115 rfl (A := A115) rfl rfl (ts := [.str [100]]) name3 σ
 ·exact fun σ => qab e115 rfl (A := A115) rfl rfl (ts := [.str [109]]) name4 σ
 ·exact fun σ => qab e115 rfl (A := A115) rfl rfl (ts := [.str [120]]) name5 σ
end X
