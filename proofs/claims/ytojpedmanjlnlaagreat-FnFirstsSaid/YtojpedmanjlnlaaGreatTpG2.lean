/- A part of the proof. No statement of the claim is in it. -/
import Derived.Test.YtojpedmanjlnlaaGreatTpGa
open Go Go.V Go.Proofs
namespace X
set_option maxRecDepth 100000
set_option maxHeartbeats 4000000
set_option linter.all false
def G8 : List T := [(.agg [(.str [80]), (.list [(.agg [(.str [100])])]), (.list [(.agg [(.list [(.agg [(iN 3), (.str [120, 48]), (.list [(.agg [(.list [(.agg [(iN 2), (iN 0), (.str [100]), .nils])])])]), (.str [])])])]), (.agg [(.list [(.agg [(iN 4), (.str []), (.list [(.agg [(.list [(.agg [(iN 2), (iN 0), (.str [100]), (.list [])]), (.agg [(iN 1), (iN 2), (.str []), (.list [])]), (.agg [(iN 9), (iN 0), (.str []), (.list [(.agg [(iN 0)]), (.agg [(iN 1)])])])])])]), (.str [])]), (.agg [(iN 1), (.str [97]), (.list []), (.str [])])])])])]), (.agg [(.str [120, 48]), (.list [(.agg [(.str [100])])]), (.list [(.agg [.nils]), (.agg [(.list [(.agg [(iN 1), (.str [40]), (.list []), (.str [])]), (.agg [(iN 3), (.str [80]), (.list [(.agg [(.list [(.agg [(iN 2), (iN 0), (.str [100]), (.list [])]), (.agg [(iN 1), (iN 1), (.str []), (.list [])]), (.agg [(iN 4), (iN 0), (.str []), (.list [(.agg [(iN 0)]), (.agg [(iN 1)])])])])])]), (.str [])]), (.agg [(iN 1), (.str [41]), (.list []), (.str [])]), (.agg [(iN 3), (.str [120, 48]), (.list [(.agg [(.list [(.agg [(iN 2), (iN 0), (.str [100]), .nils])])])]), (.str [])])])])])])]
def Az8 : T := (.list [(.agg [(.list [(.agg [(iN 3), (.str [80]), (.list [(.agg [(.list [(.agg [(iN 1), (iN 0), (.str []), (.list [])])])])]), (.str [])])])])])
def Sa8 : T := (.list [(.agg [(iN 3), (.str [80]), (.list [(.agg [(.list [(.agg [(iN 1), (iN 0), (.str []), .nils])])])]), (.str []), .nils]), (.agg [(iN 5), (.str []), .nils, (.str []), (.list [(.agg [(iN 0)])])]), (.agg [(iN 6), (.str []), .nils, (.str []), (.list [(.agg [(iN 1)])])]), (.agg [(iN 1), (.str [40]), .nils, (.str []), .nils]), (.agg [(iN 3), (.str [80]), (.list [(.agg [(.list [(.agg [(iN 2), (iN 0), (.str [100]), .nils]), (.agg [(iN 1), (iN 1), (.str []), .nils]), (.agg [(iN 4), (iN 0), (.str []), (.list [(.agg [(iN 0)]), (.agg [(iN 1)])])])])])]), (.str []), .nils]), (.agg [(iN 1), (.str [41]), .nils, (.str []), .nils]), (.agg [(iN 5), (.str []), .nils, (.str []), (.list [(.agg [(iN 3)]), (.agg [(iN 4)]), (.agg [(iN 5)])])]), (.agg [(iN 6), (.str []), .nils, (.str []), (.list [(.agg [(iN 6)])])]), (.agg [(iN 7), (.str []), .nils, (.str []), (.list [(.agg [(iN 7)])])]), (.agg [(iN 5), (.str []), .nils, (.str []), (.list [(.agg [(iN 8)])])]), (.agg [(iN 4), (.str []), (.list [(.agg [(.list [(.agg [(iN 2), (iN 0), (.str [100]), .nils]), (.agg [(iN 1), (iN 2), (.str []), .nils]), (.agg [(iN 9), (iN 0), (.str []), (.list [(.agg [(iN 0)]), (.agg [(iN 1)])])])])])]), (.str []), .nils]), (.agg [(iN 1), (.str [97]), .nils, (.str []), .nils]), (.agg [(iN 5), (.str []), .nils, (.str []), (.list [(.agg [(iN 10)]), (.agg [(iN 11)])])]), (.agg [(iN 6), (.str []), .nils, (.str []), (.list [(.agg [(iN 9)]), (.agg [(iN 12)])])])])
def Sb8 : T := (.list [(.agg [(.str [83]), .nils, (iN 2)]), (.agg [(.str [80]), (.list [(.agg [(.str [100])])]), (iN 13)])])
theorem split8 : qaj tab 100000 x30 [.t (iN 8)] = some (.tup [.str [83, 32, 45, 62, 32, 80, 40, 48, 41, 32, 59, 10, 80, 40, 100, 41, 32, 45, 62, 32, 40, 32, 34, 40, 34, 32, 80, 40, 100, 32, 43, 32, 49, 41, 32, 34, 41, 34, 32, 41, 42, 32, 124, 32, 123, 32, 100, 32, 61, 32, 50, 32, 125, 32, 34, 97, 34, 32, 59, 10], .str [40, 97, 41]]) := by kernel_rfl
theorem read8 : qaj tab 100000 x28 [.t (.str [83, 32, 45, 62, 32, 80, 40, 48, 41, 32, 59, 10, 80, 40, 100, 41, 32, 45, 62, 32, 40, 32, 34, 40, 34, 32, 80, 40, 100, 32, 43, 32, 49, 41, 32, 34, 41, 34, 32, 41, 42, 32, 124, 32, 123, 32, 100, 32, 61, 32, 50, 32, 125, 32, 34, 97, 34, 32, 59, 10])] = some (.tup [.agg [Sa8, Sb8], (.bool true)]) := by kernel_rfl
theorem flat8 : qaj tab 100000 x29 [.t (.agg [Sa8, Sb8])] = some (.tup [.agg [.list (.agg [.str [83], (.list []), Az8] :: G8)], (.bool true)]) := by kernel_rfl
theorem gok8 : qaj tab 100000 x22 [.t (.agg [.list (.agg [.str [83], (.list []), Az8] :: G8)])] = some (.bool true) := by kernel_rfl
theorem ra8_0 : qaj tab 100000 x44 [.t (.agg [.list (.agg [.str [83], (.list []), Az8] :: G8)]), .t (.str [83])] = some (iN 0) := by kernel_rfl
theorem ra8_1 : qaj tab 100000 x44 [.t (.agg [.list (.agg [.str [83], (.list []), Az8] :: G8)]), .t (.str [80])] = some (iN 1) := by kernel_rfl
theorem ra8_2 : qaj tab 100000 x44 [.t (.agg [.list (.agg [.str [83], (.list []), Az8] :: G8)]), .t (.str [120, 48])] = some (iN 2) := by kernel_rfl
def raT8 : List (List Nat × Nat) := [([83], 0), ([80], 1), ([120, 48], 2)]
theorem right8 : grOk SRf MKf VNf (qav raT8) (.agg [.str [83], (.list []), Az8] :: G8) = true := by kernel_rfl
theorem ar8 : arOk (qav raT8) (.agg [.str [83], (.list []), Az8] :: G8) = true := by kernel_rfl
theorem gram8 : GramOk SRf MKf VNf (qav raT8) [83] (.list []) Az8 G8 :=
 { sets := qjf, marks := qjr, names := qke, right := right8, ar := ar8, few := by decide, first := rfl, none_ := rfl
   gok := fun σ => qab e22 rfl (A := A22) rfl rfl (ts := [.agg [.list (.agg [.str [83], (.list []), Az8] :: G8)]]) gok8 σ
   rules := by
    intro nm j h
    have hm := qbh h
    simp only [raT8, List.mem_cons, List.not_mem_nil, or_false, Prod.mk.injEq] at hm
    rcases hm with ⟨rfl, rfl⟩ | ⟨rfl, rfl⟩ | ⟨rfl, rfl⟩
    ·exact fun σ => qab e44 rfl (A := A44) rfl rfl (ts := [.agg [.list (.agg [.str [83], (.list []), Az8] :: G8)], .str [83]]) ra8_0 σ
    ·exact fun σ => qab e44 rfl (A := A44) rfl rfl (ts := [.agg [.list (.agg [.str [83], (.list []), Az8] :: G8)], .str [80]]) ra8_1 σ
    ·exact fun σ => qab e44 rfl (A := A44) rfl rfl (ts := [.agg [.list (.agg [.str [83], (.list []), Az8] :: G8)], .str [120, 48]]) ra8_2 σ
 }
def G9 : List T := [(.agg [(.str [65]), (.list []), (.list [(.agg [(.list [(.agg [(iN 3), (.str [120, 48]), (.list []), (.str [])])])])])]), (.agg [(.str [120, 48]), (.list []), (.list [(.agg [.nils]), (.agg [(.list [(.agg [(iN 1), (.str [97]), (.list []), (.str [])]), (.agg [(iN 3), (.str [120, 48]), (.list []), (.str [])])])])])])]
def Az9 : T := (.list [(.agg [(.list [(.agg [(iN 3), (.str [65]), (.list []), (.str [110])]), (.agg [(iN 3), (.str [65]), (.list []), (.str [109])]), (.agg [(iN 4), (.str []), (.list [(.agg [(.list [(.agg [(iN 2), (iN 0), (.str [110]), (.list [])]), (.agg [(iN 2), (iN 0), (.str [109]), (.list [])]), (.agg [(iN 9), (iN 0), (.str []), (.list [(.agg [(iN 0)]), (.agg [(iN 1)])])])])])]), (.str [])])])])])
def Sa9 : T := (.list [(.agg [(iN 3), (.str [65]), .nils, (.str [110]), .nils]), (.agg [(iN 3), (.str [65]), .nils, (.str [109]), .nils]), (.agg [(iN 4), (.str []), (.list [(.agg [(.list [(.agg [(iN 2), (iN 0), (.str [110]), .nils]), (.agg [(iN 2), (iN 0), (.str [109]), .nils]), (.agg [(iN 9), (iN 0), (.str []), (.list [(.agg [(iN 0)]), (.agg [(iN 1)])])])])])]), (.str []), .nils]), (.agg [(iN 5), (.str []), .nils, (.str []), (.list [(.agg [(iN 0)]), (.agg [(iN 1)]), (.agg [(iN 2)])])]), (.agg [(iN 6), (.str []), .nils, (.str []), (.list [(.agg [(iN 3)])])]), (.agg [(iN 1), (.str [97]), .nils, (.str []), .nils]), (.agg [(iN 5), (.str []), .nils, (.str []), (.list [(.agg [(iN 5)])])]), (.agg [(iN 6), (.str []), .nils, (.str []), (.list [(.agg [(iN 6)])])]), (.agg [(iN 7), (.str []), .nils, (.str []), (.list [(.agg [(iN 7)])])]), (.agg [(iN 5), (.str []), .nils, (.str []), (.list [(.agg [(iN 8)])])]), (.agg [(iN 6), (.str []), .nils, (.str []), (.list [(.agg [(iN 9)])])])])
def Sb9 : T := (.list [(.agg [(.str [83]), .nils, (iN 4)]), (.agg [(.str [65]), .nils, (iN 10)])])
theorem split9 : qaj tab 100000 x30 [.t (iN 9)] = some (.tup [.str [83, 32, 45, 62, 32, 110, 58, 65, 32, 109, 58, 65, 32, 123, 32, 110, 32, 61, 32, 109, 32, 125, 32, 59, 10, 65, 32, 45, 62, 32, 40, 32, 34, 97, 34, 32, 41, 42, 32, 59, 10], .str [97]]) := by kernel_rfl
theorem read9 : qaj tab 100000 x28 [.t (.str [83, 32, 45, 62, 32, 110, 58, 65, 32, 109, 58, 65, 32, 123, 32, 110, 32, 61, 32, 109, 32, 125, 32, 59, 10, 65, 32, 45, 62, 32, 40, 32, 34, 97, 34, 32, 41, 42, 32, 59, 10])] = some (.tup [.agg [Sa9, Sb9], (.bool true)]) := by kernel_rfl
theorem flat9 : qaj tab 100000 x29 [.t (.agg [Sa9, Sb9])] = some (.tup [.agg [.list (.agg [.str [83], (.list []), Az9] :: G9)], (.bool true)]) := by kernel_rfl
theorem gok9 : qaj tab 100000 x22 [.t (.agg [.list (.agg [.str [83], (.list []), Az9] :: G9)])] = some (.bool true) := by kernel_rfl
theorem ra9_0 : qaj tab 100000 x44 [.t (.agg [.list (.agg [.str [83], (.list []), Az9] :: G9)]), .t (.str [83])] = some (iN 0) := by kernel_rfl
theorem ra9_1 : qaj tab 100000 x44 [.t (.agg [.list (.agg [.str [83], (.list []), Az9] :: G9)]), .t (.str [65])] = some (iN 1) := by kernel_rfl
theorem ra9_2 : qaj tab 100000 x44 [.t (.agg [.list (.agg [.str [83], (.list []), Az9] :: G9)]), .t (.str [120, 48])] = some (iN 2) := by kernel_rfl
def raT9 : List (List Nat × Nat) := [([83], 0), ([65], 1), ([120, 48], 2)]
theorem right9 : grOk SRf MKf VNf (qav raT9) (.agg [.str [83], (.list []), Az9] :: G9) = true := by kernel_rfl
theorem ar9 : arOk (qav raT9) (.agg [.str [83], (.list []), Az9] :: G9) = true := by kernel_rfl
theorem gram9 : GramOk SRf MKf VNf (qav raT9) [83] (.list []) Az9 G9 :=
 { sets := qjf, marks := qjr, names := qke, right := right9, ar := ar9, few := by decide, first := rfl, none_ := rfl
   gok := fun σ => qab e22 rfl (A := A22) rfl rfl (ts := [.agg [.list (.agg [.str [83], (.list []), Az9] :: G9)]]) gok9 σ
   rules := by
    intro nm j h
    have hm := qbh h
    simp only [raT9, List.mem_cons, List.not_mem_nil, or_false, Prod.mk.injEq] at hm
    rcases hm with ⟨rfl, rfl⟩ | ⟨rfl, rfl⟩ | ⟨rfl, rfl⟩
    ·exact fun σ => qab e44 rfl (A := A44) rfl rfl (ts := [.agg [.list (.agg [.str [83], (.list []), Az9] :: G9)], .str [83]]) ra9_0 σ
    ·exact fun σ => qab e44 rfl (A := A44) rfl rfl (ts := [.agg [.list (.agg [.str [83], (.list []), Az9] :: G9)], .str [65]]) ra9_1 σ
    ·exact fun σ => qab e44 rfl (A := A44) rfl rfl (ts := [.agg [.list (.agg [.str [83], (.list []), Az9] :: G9)], .str [120, 48]]) ra9_2 σ
 }
def G10 : List T := [(.agg [(.str [120, 48]), (.list []), (.list [(.agg [.nils]), (.agg [(.list [(.agg [(iN 1), (.str [97]), (.list []), (.str [])]), (.agg [(iN 3), (.str [120, 49]), (.list []), (.str [])]), (.agg [(iN 3), (.str [120, 48]), (.list []), (.str [])])])])])]), (.agg [(.str [120, 49]), (.list []), (.list [(.agg [(.list [(.agg [(iN 1), (.str [98]), (.list []), (.str [])])])]), (.agg [(.list [(.agg [(iN 4), (.str []), (.list [(.agg [(.list [(.agg [(iN 3), (iN 0), (.str []), (.list [])]), (.agg [(iN 1), (iN 3), (.str []), (.list [])]), (.agg [(iN 8), (iN 0), (.str []), (.list [(.agg [(iN 0)]), (.agg [(iN 1)])])])])])]), (.str [])])])])])])]
def Az10 : T := (.list [(.agg [(.list [(.agg [(iN 4), (.str []), (.list [(.agg [(.list [(.agg [(iN 3), (iN 0), (.str []), (.list [])]), (.agg [(iN 1), (iN 0), (.str []), (.list [])]), (.agg [(iN 9), (iN 0), (.str []), (.list [(.agg [(iN 0)]), (.agg [(iN 1)])])])])])]), (.str [])]), (.agg [(iN 3), (.str [120, 48]), (.list []), (.str [])])])])])
def Sa10 : T := (.list [(.agg [(iN 4), (.str []), (.list [(.agg [(.list [(.agg [(iN 3), (iN 0), (.str []), .nils]), (.agg [(iN 1), (iN 0), (.str []), .nils]), (.agg [(iN 9), (iN 0), (.str []), (.list [(.agg [(iN 0)]), (.agg [(iN 1)])])])])])]), (.str []), .nils]), (.agg [(iN 1), (.str [97]), .nils, (.str []), .nils]), (.agg [(iN 1), (.str [98]), .nils, (.str []), .nils]), (.agg [(iN 5), (.str []), .nils, (.str []), (.list [(.agg [(iN 2)])])]), (.agg [(iN 4), (.str []), (.list [(.agg [(.list [(.agg [(iN 3), (iN 0), (.str []), .nils]), (.agg [(iN 1), (iN 3), (.str []), .nils]), (.agg [(iN 8), (iN 0), (.str []), (.list [(.agg [(iN 0)]), (.agg [(iN 1)])])])])])]), (.str []), .nils]), (.agg [(iN 5), (.str []), .nils, (.str []), (.list [(.agg [(iN 4)])])]), (.agg [(iN 6), (.str []), .nils, (.str []), (.list [(.agg [(iN 3)]), (.agg [(iN 5)])])]), (.agg [(iN 5), (.str []), .nils, (.str []), (.list [(.agg [(iN 1)]), (.agg [(iN 6)])])]), (.agg [(iN 6), (.str []), .nils, (.str []), (.list [(.agg [(iN 7)])])]), (.agg [(iN 7), (.str []), .nils, (.str []), (.list [(.agg [(iN 8)])])]), (.agg [(iN 5), (.str []), .nils, (.str []), (.list [(.agg [(iN 0)]), (.agg [(iN 9)])])]), (.agg [(iN 6), (.str []), .nils, (.str []), (.list [(.agg [(iN 10)])])])])
def Sb10 : T := (.list [(.agg [(.str [83]), .nils, (iN 11)])])
theorem split10 : qaj tab 100000 x30 [.t (iN 10)] = some (.tup [.str [83, 32, 45, 62, 32, 123, 32, 64, 32, 61, 32, 48, 32, 125, 32, 40, 32, 34, 97, 34, 32, 40, 32, 34, 98, 34, 32, 124, 32, 123, 32, 64, 32, 60, 32, 51, 32, 125, 32, 41, 32, 41, 42, 32, 59, 10], .str [97, 98]]) := by kernel_rfl
theorem read10 : qaj tab 100000 x28 [.t (.str [83, 32, 45, 62, 32, 123, 32, 64, 32, 61, 32, 48, 32, 125, 32, 40, 32, 34, 97, 34, 32, 40, 32, 34, 98, 34, 32, 124, 32, 123, 32, 64, 32, 60, 32, 51, 32, 125, 32, 41, 32, 41, 42, 32, 59, 10])] = some (.tup [.agg [Sa10, Sb10], (.bool true)]) := by kernel_rfl
theorem flat10 : qaj tab 100000 x29 [.t (.agg [Sa10, Sb10])] = some (.tup [.agg [.list (.agg [.str [83], (.list []), Az10] :: G10)], (.bool true)]) := by kernel_rfl
theorem gok10 : qaj tab 100000 x22 [.t (.agg [.list (.agg [.str [83], (.list []), Az10] :: G10)])] = some (.bool true) := by kernel_rfl
theorem ra10_0 : qaj tab 100000 x44 [.t (.agg [.list (.agg [.str [83], (.list []), Az10] :: G10)]), .t (.str [83])] = some (iN 0) := by kernel_rfl
theorem ra10_1 : qaj tab 100000 x44 [.t (.agg [.list (.agg [.str [83], (.list []), Az10] :: G10)]), .t (.str [120, 48])] = some (iN 1) := by kernel_rfl
theorem ra10_2 : qaj tab 100000 x44 [.t (.agg [.list (.agg [.str [83], (.list []), Az10] :: G10)]), .t (.str [120, 49])] = some (iN 2) := by kernel_rfl
def qux : List (List Nat × Nat) := [([83], 0), ([120, 48], 1), ([120, 49], 2)]
theorem right10 : grOk SRf MKf VNf (qav qux) (.agg [.str [83], (.list []), Az10] :: G10) = true := by kernel_rfl
theorem ar10 : arOk (qav qux) (.agg [.str [83], (.list []), Az10] :: G10) = true := by kernel_rfl
theorem gram10 : GramOk SRf MKf VNf (qav qux) [83] (.list []) Az10 G10 :=
 { sets := qjf, marks := qjr, names := qke, right := right10, ar := ar10, few := by decide, first := rfl, none_ := rfl
   gok := fun σ => qab e22 rfl (A := A22) rfl rfl (ts := [.agg [.list (.agg [.str [83], (.list []), Az10] :: G10)]]) gok10 σ
   rules := by
    intro nm j h
    have hm := qbh h
    simp only [qux, List.mem_cons, List.not_mem_nil, or_false, Prod.mk.injEq] at hm
    rcases hm with ⟨rfl, rfl⟩ | ⟨rfl, rfl⟩ | ⟨rfl, rfl⟩
    ·exact fun σ => qab e44 rfl (A := A44) rfl rfl (ts := [.agg [.list (.agg [.str [83], (.list []), Az10] :: G10)], .str [83]]) ra10_0 σ
    ·exact fun σ => qab e44 rfl (A := A44) rfl rfl (ts := [.agg [.list (.agg [.str [83], (.list []), Az10] :: G10)], .str [120, 48]]) ra10_1 σ
    ·exact fun σ => qab e44 rfl (A := A44) rfl rfl (ts := [.agg [.list (.agg [.str [83], (.list []), Az10] :: G10)], .str [120, 49]]) ra10_2 σ
 }
def G11 : List T := [(.agg [(.str [68]), (.list []), (.list [(.agg [(.list [(.agg [(iN 2), (.str [48, 45, 57]), (.list []), (.str [])])])])])]), (.agg [(.str [120, 48]), (.list [(.agg [(.str [120])])]), (.list [(.agg [(.list [(.agg [(iN 4), (.str []), (.list [(.agg [(.list [(.agg [(iN 2), (iN 0), (.str [120]), (.list [])]), (.agg [(iN 1), (iN 5), (.str []), (.list [])]), (.agg [(iN 8), (iN 0), (.str []), (.list [(.agg [(iN 0)]), (.agg [(iN 1)])])])])])]), (.str [])]), (.agg [(iN 1), (.str [97]), (.list []), (.str [])])])]), (.agg [(.list [(.agg [(iN 4), (.str []), (.list [(.agg [(.list [(.agg [(iN 1), (iN 4), (.str []), (.list [])]), (.agg [(iN 2), (iN 0), (.str [120]), (.list [])]), (.agg [(iN 8), (iN 0), (.str []), (.list [(.agg [(iN 0)]), (.agg [(iN 1)])])])])])]), (.str [])]), (.agg [(iN 1), (.str [98]), (.list []), (.str [])])])]), (.agg [(.list [(.agg [(iN 4), (.str []), (.list [(.agg [(.list [(.agg [(iN 2), (iN 0), (.str [120]), (.list [])]), (.agg [(iN 1), (iN 5), (.str []), (.list [])]), (.agg [(iN 8), (iN 0), (.str []), (.list [(.agg [(iN 0)]), (.agg [(iN 1)])])])])])]), (.str [])]), (.agg [(iN 1), (.str [97]), (.list []), (.str [])]), (.agg [(iN 3), (.str [120, 48]), (.list [(.agg [(.list [(.agg [(iN 2), (iN 0), (.str [120]), .nils])])])]), (.str [])])])]), (.agg [(.list [(.agg [(iN 4), (.str []), (.list [(.agg [(.list [(.agg [(iN 1), (iN 4), (.str []), (.list [])]), (.agg [(iN 2), (iN 0), (.str [120]), (.list [])]), (.agg [(iN 8), (iN 0), (.str []), (.list [(.agg [(iN 0)]), (.agg [(iN 1)])])])])])]), (.str [])]), (.agg [(iN 1), (.str [98]), (.list []), (.str [])]), (.agg [(iN 3), (.str [120, 48]), (.list [(.agg [(.list [(.agg [(iN 2), (iN 0), (.str [120]), .nils])])])]), (.str [])])])])])])]
def Az11 : T := (.list [(.agg [(.list [(.agg [(iN 3), (.str [68]), (.list []), (.str [120])]), (.agg [(iN 3), (.str [120, 48]), (.list [(.agg [(.list [(.agg [(iN 2), (iN 0), (.str [120]), .nils])])])]), (.str [])])])])])
def Sa11 : T := (.list [(.agg [(iN 3), (.str [68]), .nils, (.str [120]), .nils]), (.agg [(iN 4), (.str []), (.list [(.agg [(.list [(.agg [(iN 2), (iN 0), (.str [120]), .nils]), (.agg [(iN 1), (iN 5), (.str []), .nils]), (.agg [(iN 8), (iN 0), (.str []), (.list [(.agg [(iN 0)]), (.agg [(iN 1)])])])])])]), (.str []), .nils]), (.agg [(iN 1), (.str [97]), .nils, (.str []), .nils]), (.agg [(iN 5), (.str []), .nils, (.str []), (.list [(.agg [(iN 1)]), (.agg [(iN 2)])])]), (.agg [(iN 4), (.str []), (.list [(.agg [(.list [(.agg [(iN 1), (iN 4), (.str []), .nils]), (.agg [(iN 2), (iN 0), (.str [120]), .nils]), (.agg [(iN 8), (iN 0), (.str []), (.list [(.agg [(iN 0)]), (.agg [(iN 1)])])])])])]), (.str []), .nils]), (.agg [(iN 1), (.str [98]), .nils, (.str []), .nils]), (.agg [(iN 5), (.str []), .nils, (.str []), (.list [(.agg [(iN 4)]), (.agg [(iN 5)])])]), (.agg [(iN 6), (.str []), .nils, (.str []), (.list [(.agg [(iN 3)]), (.agg [(iN 6)])])]), (.agg [(iN 8), (.str []), .nils, (.str []), (.list [(.agg [(iN 7)])])]), (.agg [(iN 5), (.str []), .nils, (.str []), (.list [(.agg [(iN 0)]), (.agg [(iN 8)])])]), (.agg [(iN 6), (.str []), .nils, (.str []), (.list [(.agg [(iN 9)])])]), (.agg [(iN 2), (.str [48, 45, 57]), .nils, (.str []), .nils]), (.agg [(iN 5), (.str []), .nils, (.str []), (.list [(.agg [(iN 11)])])]), (.agg [(iN 6), (.str []), .nils, (.str []), (.list [(.agg [(iN 12)])])])])
def Sb11 : T := (.list [(.agg [(.str [83]), .nils, (iN 10)]), (.agg [(.str [68]), .nils, (iN 13)])])
theorem split11 : qaj tab 100000 x30 [.t (iN 11)] = some (.tup [.str [83, 32, 45, 62, 32, 120, 58, 68, 32, 40, 32, 123, 32, 120, 32, 60, 32, 53, 32, 125, 32, 34, 97, 34, 32, 124, 32, 123, 32, 52, 32, 60, 32, 120, 32, 125, 32, 34, 98, 34, 32, 41, 43, 32, 59, 10, 68, 32, 45, 62, 32, 91, 48, 45, 57, 93, 32, 59, 10], .str [51, 97, 55, 98]]) := by kernel_rfl
theorem read11 : qaj tab 100000 x28 [.t (.str [83, 32, 45, 62, 32, 120, 58, 68, 32, 40, 32, 123, 32, 120, 32, 60, 32, 53, 32, 125, 32, 34, 97, 34, 32, 124, 32, 123, 32, 52, 32, 60, 32, 120, 32, 125, 32, 34, 98, 34, 32, 41, 43, 32, 59, 10, 68, 32, 45, 62, 32, 91, 48, 45, 57, 93, 32, 59, 10])] = some (.tup [.agg [Sa11, Sb11], (.bool true)]) := by kernel_rfl
theorem flat11 : qaj tab 100000 x29 [.t (.agg [Sa11, Sb11])] = some (.tup [.agg [.list (.agg [.str [83], (.list []), Az11] :: G11)], (.bool true)]) := by kernel_rfl
theorem gok11 : qaj tab 100000 x22 [.t (.agg [.list (.agg [.str [83], (.list []), Az11] :: G11)])] = some (.bool true) := by kernel_rfl
theorem ra11_0 : qaj tab 100000 x44 [.t (.agg [.list (.agg [.str [83], (.list []), Az11] :: G11)]), .t (.str [83])] = some (iN 0) := by kernel_rfl
theorem ra11_1 : qaj tab 100000 x44 [.t (.agg [.list (.agg [.str [83], (.list []), Az11] :: G11)]), .t (.str [68])] = some (iN 1) := by kernel_rfl
theorem ra11_2 : qaj tab 100000 x44 [.t (.agg [.list (.agg [.str [83], (.list []), Az11] :: G11)]), .t (.str [120, 48])] = some (iN 2) := by kernel_rfl
def qul : List (List Nat × Nat) := [([83], 0), ([68], 1), ([120, 48], 2)]
theorem right11 : grOk SRf MKf VNf (qav qul) (.agg [.str [83], (.list []), Az11] :: G11) = true := by kernel_rfl
theorem ar11 : arOk (qav qul) (.agg [.str [83], (.list []), Az11] :: G11) = true := by kernel_rfl
theorem gram11 : GramOk SRf MKf VNf (qav qul) [83] (.list []) Az11 G11 :=
 { sets := qjf, marks := qjr, names := qke, right := right11, ar := ar11, few := by decide, first := rfl, none_ := rfl
   gok := fun σ => qab e22 rfl (A := A22) rfl rfl (ts := [.agg [.list (.agg [.str [83], (.list []), Az11] :: G11)]]) gok11 σ
   rules := by
    intro nm j h
    have hm := qbh h
    simp only [qul, List.mem_cons, List.not_mem_nil, or_false, Prod.mk.injEq] at hm
    rcases hm with ⟨rfl, rfl⟩ | ⟨rfl, rfl⟩ | ⟨rfl, rfl⟩
    ·exact fun σ => qab e44 rfl (A := A44) rfl rfl (ts := [.agg [.list (.agg [.str [83], (.list []), Az11] :: G11)], .str [83]]) ra11_0 σ
    ·exact fun σ => qab e44 rfl (A := A44) rfl rfl (ts := [.agg [.list (.agg [.str [83], (.list []), Az11] :: G11)], .str [68]]) ra11_1 σ
    ·exact fun σ => qab e44 rfl (A := A44) rfl rfl (ts := [.agg [.list (.agg [.str [83], (.list []), Az11] :: G11)], .str [120, 48]]) ra11_2 σ
 }
end X
