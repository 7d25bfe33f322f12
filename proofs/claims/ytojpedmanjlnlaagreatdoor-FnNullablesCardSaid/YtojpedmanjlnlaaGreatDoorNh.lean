/- A part of the proof. No statement of the claim is in it. -/
import Derived.Test.YtojpedmanjlnlaaGreatDoorNg
set_option maxRecDepth 100000
set_option maxHeartbeats 4000000
set_option linter.all false
open Go Go.V Go.Proofs
namespace X
attribute [-simp] getElem?_pos
/-! ### The law -/
theorem frz_tup2 {σ : Store} {w : V} {y t : T} (h : frz 39 σ w = some y) : frz 40 σ (mkTup [w, .t t]) = some (.tup [y, t]) := by
 have key : (frzs (frz 39 σ) [w, .t t]).map T.tup = some (.tup [y, t]) := by
  simp only [frzs, h]
  rfl
 cases w with
 | t y' => cases h; rfl
 | sl loc g off len k => exact key
 | agg cs => exact key
 | tup cs => exact key
 | _ => simp only [frz] at h; cases h
theorem drawFb_ld {P Q : T → Prop} (hP : PairsOk Q) (hQ : ∀ G, Q G → AnyG P G) {x : T} {l : List Int} (hx : BytesT x l) (hl : (l.length : Int) ≤ 1048576) :
  ∃ (z : T) (r : Int), (∀ σ, LD S 6 [.t x] σ = some (.t (.tup [.agg [z], I r]), σ)) ∧ P (.agg [z]) ∧ (-9223372036854775808 ≤ r ∧ r ≤ 9223372036854775807) := by
 obtain ⟨h0, hnew⟩ := new_lv hx hl [.cells [.t .nils] 0 0]
 have hC : CurAt [V.Obj.cells [V.t .nils] 0 0, Cur x 0 h0] 1 x l := ⟨_, rfl, 0, h0, rfl, by omega, by omega⟩
 obtain ⟨r, o, p1, p2, p3⟩ := place_ld hx hl hC
 obtain ⟨u, σ', Y, a1, a2, a3, a4⟩ := any_lv hP hQ hx hl (oc := o) p3
 have hnew' : LD S 14 [.t x] [.cells [.t .nils] 0 0] = some (.ptr 1 0 0 3, [.cells [.t .nils] 0 0, Cur x 0 h0]) := hnew
 have p1' : LD S 15 [.ptr 1 0 0 3, .t (I 2)] [.cells [.t .nils] 0 0, Cur x 0 h0] = some (.t (I r), [.cells [.t .nils] 0 0, o]) := p1
 have a1' : LD S 16 [.ptr 1 0 0 3] [.cells [.t .nils] 0 0, o] = some (.agg [u], σ') := by
  rw [LD_inl (A := A16) rfl rfl rfl]; exact a1
 obtain ⟨z, rfl⟩ : ∃ z, Y = .agg [z] := by
  have a3' : (frzs (frz 38 (σ'.set 0 (.cells [u] 0 0))) [u]).map T.agg = some Y := a3
  cases hu : frz 38 (σ'.set 0 (.cells [u] 0 0)) u with
  | none => simp only [frzs, hu] at a3'; cases a3'
  | some y => simp only [frzs, hu, Option.map_some, Option.some.injEq] at a3'; exact ⟨y, a3'.symm⟩
 refine ⟨z, r, ?_, a4, p2⟩
 suffices hh : ∃ v σ2, LV S 6 [.t x] [] = some (v, σ2) ∧ frz 40 σ2 v = some (.tup [.agg [z], I r]) by
  obtain ⟨v, σ2, h1, h2⟩ := hh
  exact fun σ => LD_pure (A := A6) (args := [.t x]) rfl rfl rfl h1 h2 σ
 have q2 : ∀ o', (σ'.set 0 o')[0]? = some o' := fun o' => List.getElem?_set_self (lt_of_get a2)
 refine LV_bodyX (A := A6) rfl Tryz.func6 rfl ?_
 repeat apply wS
 refine wR (by simp; constructor <;> rfl) ?_
 try simp only [tq]
 repeat apply wS
 refine wR (by simp [hnew']; constructor <;> rfl) ?_
 try simp only [tq]
 repeat apply wS
 refine wR (by simp [p1']; constructor <;> rfl) ?_
 try simp only [tq]
 repeat apply wS
 refine wR (by simp [a1', a2, fillV, setRange]; constructor <;> rfl) ?_
 try simp only [tq]
 refine W_ret ?_
 have hf : ∀ σ, frz 39 σ (match allT [u] with
  | some ts => V.t (T.agg ts)
  | none => V.agg [u]) = frz 39 σ (.agg [u]) := fun σ => by
  cases u <;> rfl
 exact ⟨trivial, _, (by simp [Tryz.f6, q2, mkAgg, joinV]; rfl), frz_tup2 ((hf _).trans a3)⟩
theorem big_ld {x : T} {l : List Int} (hx : BytesT x l) (σ : Store) : LD S 4 [.t x] σ = some (.t (B (decide ((1048576 : Int) < l.length))), σ) := by
 refine LD_pure (A := A4) (v := .t (B (decide ((1048576 : Int) < l.length)))) (σ0 := []) rfl rfl rfl ?_ rfl σ
 rcases hx with ⟨rfl, rfl⟩ | rfl
 ·refine LV_body (A := A4) rfl Tryz.func4 rfl ?_
  repeat apply wS
  refine wR (by simp [lenV]; constructor <;> rfl) ?_
  try simp only [tq]
  repeat apply wS
  refine wR (by simp; constructor <;> rfl) ?_
  try simp only [tq]
  refine W_ret ?_
  try simp only [tq]
  simp [Tryz.f4]
 ·refine LV_body (A := A4) rfl Tryz.func4 rfl ?_
  repeat apply wS
  refine wR (by simp [lenV]; constructor <;> rfl) ?_
  try simp only [tq]
  repeat apply wS
  refine wR (by simp; constructor <;> rfl) ?_
  try simp only [tq]
  refine W_ret ?_
  try simp only [tq]
  simp [Tryz.f4]
def strsT (l : List (List Nat)) : T := .list (l.map fun s => .agg [.str s])
/-- what the law asks of its two grammars -/
structure TwoOk (ga gb : T) : Prop where
 pa : ∀ σ, LD S 5 [.t (.str [83, 32, 45, 62, 32, 65, 32, 66, 32, 59, 32, 65, 32, 45, 62, 32, 34, 97, 34, 32, 124, 32, 59, 32, 66, 32, 45, 62, 32, 65, 32, 65, 32, 124, 32, 83, 32, 34, 98, 34, 32, 59])] σ = some (.t (.agg [ga]), σ)
 pb : ∀ σ, LD S 5 [.t (.str [83, 32, 45, 62, 32, 65, 32, 34, 120, 34, 32, 59, 32, 65, 32, 45, 62, 32, 123, 32, 49, 32, 61, 32, 50, 32, 125, 32, 124, 32, 91, 48, 45, 57, 93, 32, 59])] σ = some (.t (.agg [gb]), σ)
 na : ∀ σ, LD S 8 [.t (.agg [ga])] σ = some (.t (strsT [[83], [65], [66]]), σ)
 nb : ∀ σ, LD S 8 [.t (.agg [gb])] σ = some (.t (strsT [[65]]), σ)
 sa : ∀ σ, LD S 7 [.t (strsT [[83], [65], [66]]), .t (strsT [[83], [65], [66]])] σ = some (.t (B true), σ)
 sb : ∀ σ, LD S 7 [.t (strsT [[65]]), .t (strsT [[65]])] σ = some (.t (B true), σ)
 acc : ∀ σ, LD S 9 [.t (.agg [ga]), .t (.str [])] σ = some (.t (B true), σ)
 fa : ∀ σ, LD S 10 [.t (.agg [ga]), .t (I 0)] σ = some (.t (.str [97, 98]), σ)
 fb : ∀ σ, LD S 10 [.t (.agg [gb]), .t (I 0)] σ = some (.t (.str [48, 49, 50, 51, 52, 53, 54, 55, 56, 57, 120]), σ)
theorem eqL_self : ∀ l : List Nat, eqL l l = true
 | [] => rfl
 | a :: r => by simp only [eqL, eqL_self r]; simp
theorem law_lv {ga gb : T} (H : TwoOk ga gb) {Q : T → Prop} (hP : PairsOk Q) (hQ : ∀ G, Q G → AnyG FbOk G) {x : T} {l : List Int} (hx : BytesT x l) : ∃ σ', LV S 3 [.t x] [] = some (.t (B true), σ') := by
 refine LV_bodyE (A := A3) rfl Tryz.func3 rfl ?_
 have hbig := big_ld hx
 repeat apply wS
 refine wR (by simp; constructor <;> rfl) ?_
 try simp only [tq]
 repeat apply wS
 refine wR (by simp [hbig]; constructor <;> rfl) ?_
 try simp only [tq]
 by_cases c0 : (1048576 : Int) < l.length
 ·repeat apply wS
  refine wC (t := true) (by simp [c0]) ?_
  simp only [iq]
  repeat apply wS
  refine wR (by simp; constructor <;> rfl) ?_
  try simp only [tq]
  refine W_ret ?_
  try simp only [tq]
  simp [Tryz.f3]
 repeat apply wS
 refine wC (t := false) (by simp [c0]) ?_
 simp only [iq]
 refine W_skip ?_
 try simp only [tq]
 obtain ⟨z, r, d1, d2, d3⟩ := drawFb_ld hP hQ hx (by omega)
 obtain ⟨s, f1, f2⟩ := d2 r d3
 have h1 := H.na
 have h2 := H.nb
 have h3 := H.sa
 have h4 := H.sb
 have h5 := H.acc
 have h6 := H.fa
 have h7 := H.fb
 have hpa := H.pa
 have hpb := H.pb
 simp only [strsT, List.map_cons, List.map_nil] at h1 h2 h3 h4
 repeat apply wS
 refine wR (by simp [hpa, fillV, setRange]; constructor <;> rfl) ?_
 try simp only [tq]
 repeat apply wS
 refine wR (by simp [hpb, fillV, setRange]; constructor <;> rfl) ?_
 try simp only [tq]
 repeat apply wS
 refine wR (by simp [d1, fillV, setRange]; constructor <;> rfl) ?_
 try simp only [tq]
 repeat apply wS
 refine wR (by simp [h1, h2, h3, h4, h5, h6, h7, f1, f2, eqL_self, sliceCells, repZero, chunk, fillV, setRange, show List.range 3 = [0, 1, 2] from rfl, allT]; constructor <;> rfl) ?_
 try simp only [tq]
 refine W_ret ?_
 try simp only [tq]
 simp [Tryz.f3]
end X
