/- A part of the proof. No statement of the claim is in it. -/
import Derived.Test.YtojpedmanjlnlaaGreatDoorNh
open Go Go.V Go.Proofs
namespace X
set_option maxRecDepth 100000
set_option maxHeartbeats 4000000
set_option linter.all false
theorem crun_ld {f : FuncId} {x : FFn} (hx : Entry ixf S x) (hf : x.tag = some f) {A : Ann} (hA : S.ann f = some A) (hp : A.isPure = true) {ts : List T} {r : T} (h : frunX tab 100000 x (ts.map V.t) = some r) (σ : Store) : LD S f (ts.map V.t) σ = some (.t r, σ) :=
 frunX_ld tab_ok hx hf hA hp h σ
theorem set0 : frunX tab 100000 x55 [.t (.str [120])] = some (.str [120]) := by kernel_rfl
theorem set1 : frunX tab 100000 x55 [.t (.str [48, 45, 57])] = some (.str [48, 49, 50, 51, 52, 53, 54, 55, 56, 57]) := by kernel_rfl
theorem set2 : frunX tab 100000 x55 [.t (.str [97, 98])] = some (.str [97, 98]) := by kernel_rfl
def sbT : List (List Nat × List Nat) := [([120], [120]), ([48, 45, 57], [48, 49, 50, 51, 52, 53, 54, 55, 56, 57]), ([97, 98], [97, 98])]
def SBf : List Nat → Option (List Nat) := lookL sbT
theorem sb_ok : SbOk SBf := by
 intro s bs h
 have hm := lookL_some h
 simp only [sbT, List.mem_cons, List.not_mem_nil, or_false, Prod.mk.injEq] at hm
 rcases hm with ⟨rfl, rfl⟩ | ⟨rfl, rfl⟩ | ⟨rfl, rfl⟩
 ·exact fun σ => crun_ld e55 rfl (A := A55) rfl rfl (ts := [.str [120]]) set0 σ
 ·exact fun σ => crun_ld e55 rfl (A := A55) rfl rfl (ts := [.str [48, 45, 57]]) set1 σ
 ·exact fun σ => crun_ld e55 rfl (A := A55) rfl rfl (ts := [.str [97, 98]]) set2 σ
def ga : T := .list [.agg [(.str [83]), .list [], .list [.agg [.list [.agg [(iN 3), (.str [65]), .list [], (.str [])], .agg [(iN 3), (.str [66]), .list [], (.str [])]]]]], .agg [(.str [65]), .list [], .list [.agg [.list [.agg [(iN 1), (.str [97]), .list [], (.str [])]]], .agg [.list []]]], .agg [(.str [66]), .list [], .list [.agg [.list [.agg [(iN 3), (.str [65]), .list [], (.str [])], .agg [(iN 3), (.str [65]), .list [], (.str [])]]], .agg [.list [.agg [(iN 3), (.str [83]), .list [], (.str [])], .agg [(iN 1), (.str [98]), .list [], (.str [])]]]]]]
def gb : T := .list [.agg [(.str [83]), .list [], .list [.agg [.list [.agg [(iN 3), (.str [65]), .list [], (.str [])], .agg [(iN 1), (.str [120]), .list [], (.str [])]]]]], .agg [(.str [65]), .list [], .list [.agg [.list [.agg [(iN 4), (.str []), .list [.agg [.list [.agg [(iN 1), (iN 1), (.str []), .list []], .agg [(iN 1), (iN 2), (.str []), .list []], .agg [(iN 9), (iN 0), (.str []), .list [.agg [(iN 0)], .agg [(iN 1)]]]]]], (.str [])]]], .agg [.list [.agg [(iN 2), (.str [48,45,57]), .list [], (.str [])]]]]]]
theorem two_pa : frunX tab 100000 x5 [.t (.str [83, 32, 45, 62, 32, 65, 32, 66, 32, 59, 32, 65, 32, 45, 62, 32, 34, 97, 34, 32, 124, 32, 59, 32, 66, 32, 45, 62, 32, 65, 32, 65, 32, 124, 32, 83, 32, 34, 98, 34, 32, 59])] = some (.agg [ga]) := by kernel_rfl
theorem two_pb : frunX tab 100000 x5 [.t (.str [83, 32, 45, 62, 32, 65, 32, 34, 120, 34, 32, 59, 32, 65, 32, 45, 62, 32, 123, 32, 49, 32, 61, 32, 50, 32, 125, 32, 124, 32, 91, 48, 45, 57, 93, 32, 59])] = some (.agg [gb]) := by kernel_rfl
theorem two_na : frunX tab 100000 x8 [.t (.agg [ga])] = some (strsT [[83], [65], [66]]) := by kernel_rfl
theorem two_nb : frunX tab 100000 x8 [.t (.agg [gb])] = some (strsT [[65]]) := by kernel_rfl
theorem two_sa : frunX tab 100000 x7 [.t (strsT [[83], [65], [66]]), .t (strsT [[83], [65], [66]])] = some (.bool true) := by kernel_rfl
theorem two_sb : frunX tab 100000 x7 [.t (strsT [[65]]), .t (strsT [[65]])] = some (.bool true) := by kernel_rfl
theorem two_acc : frunX tab 100000 x9 [.t (.agg [ga]), .t (.str [])] = some (.bool true) := by kernel_rfl
theorem two_fa : frunX tab 100000 x10 [.t (.agg [ga]), .t (iN 0)] = some (.str [97, 98]) := by kernel_rfl
theorem two_fb : frunX tab 100000 x10 [.t (.agg [gb]), .t (iN 0)] = some (.str [48, 49, 50, 51, 52, 53, 54, 55, 56, 57, 120]) := by kernel_rfl
theorem two_ok : TwoOk ga gb where
 pa := fun σ => crun_ld e5 rfl (A := A5) rfl rfl (ts := [.str [83, 32, 45, 62, 32, 65, 32, 66, 32, 59, 32, 65, 32, 45, 62, 32, 34, 97, 34, 32, 124, 32, 59, 32, 66, 32, 45, 62, 32, 65, 32, 65, 32, 124, 32, 83, 32, 34, 98, 34, 32, 59]]) two_pa σ
 pb := fun σ => crun_ld e5 rfl (A := A5) rfl rfl (ts := [.str [83, 32, 45, 62, 32, 65, 32, 34, 120, 34, 32, 59, 32, 65, 32, 45, 62, 32, 123, 32, 49, 32, 61, 32, 50, 32, 125, 32, 124, 32, 91, 48, 45, 57, 93, 32, 59]]) two_pb σ
 na := fun σ => crun_ld e8 rfl (A := A8) rfl rfl (ts := [.agg [ga]]) two_na σ
 nb := fun σ => crun_ld e8 rfl (A := A8) rfl rfl (ts := [.agg [gb]]) two_nb σ
 sa := fun σ => crun_ld e7 rfl (A := A7) rfl rfl (ts := [strsT [[83], [65], [66]], strsT [[83], [65], [66]]]) two_sa σ
 sb := fun σ => crun_ld e7 rfl (A := A7) rfl rfl (ts := [strsT [[65]], strsT [[65]]]) two_sb σ
 acc := fun σ => crun_ld e9 rfl (A := A9) rfl rfl (ts := [.agg [ga], .str []]) two_acc σ
 fa := fun σ => crun_ld e10 rfl (A := A10) rfl rfl (ts := [.agg [ga], .int .i64 (.ofNat 0)]) two_fa σ
 fb := fun σ => crun_ld e10 rfl (A := A10) rfl rfl (ts := [.agg [gb], .int .i64 (.ofNat 0)]) two_fb σ
end X
