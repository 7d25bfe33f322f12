/- A part of the proof. No statement of the claim is in it. -/
import Derived.Test.YtojpedmanjlnlaaGreatTpGa
open Go Go.V Go.Proofs
namespace X
set_option maxRecDepth 100000
set_option maxHeartbeats 4000000
set_option linter.all false
def G4 : List T := [(.agg [(.str [69]), (.list [(.agg [(.str [112])])]), (.list [(.agg [(.list [(.agg [(iN 4), (.str []), (.list [(.agg [(.list [(.agg [(iN 1), (iN 1), (.str []), (.list [])]), (.agg [(iN 2), (iN 0), (.str [112]), (.list [])]), (.agg [(iN 8), (iN 0), (.str []), (.list [(.agg [(iN 0)]), (.agg [(iN 1)])])]), (.agg [(iN 11), (iN 0), (.str []), (.list [(.agg [(iN 2)])])])])])]), (.str [])]), (.agg [(iN 3), (.str [69]), (.list [(.agg [(.list [(.agg [(iN 1), (iN 1), (.str []), (.list [])])])])]), (.str [])]), (.agg [(iN 1), (.str [43]), (.list []), (.str [])]), (.agg [(iN 3), (.str [69]), (.list [(.agg [(.list [(.agg [(iN 1), (iN 2), (.str []), (.list [])])])])]), (.str [])])])]), (.agg [(.list [(.agg [(iN 2), (.str [48, 45, 57]), (.list []), (.str [])])])]), (.agg [(.list [(.agg [(iN 1), (.str [40]), (.list []), (.str [])]), (.agg [(iN 3), (.str [69]), (.list [(.agg [(.list [(.agg [(iN 1), (iN 0), (.str []), (.list [])])])])]), (.str [])]), (.agg [(iN 1), (.str [41]), (.list []), (.str [])])])])])])]
def Az4 : T := (.list [(.agg [(.list [(.agg [(iN 3), (.str [69]), (.list [(.agg [(.list [(.agg [(iN 1), (iN 0), (.str []), (.list [])])])])]), (.str [])])])])])
def Sa4 : T := (.list [(.agg [(iN 3), (.str [69]), (.list [(.agg [(.list [(.agg [(iN 1), (iN 0), (.str []), .nils])])])]), (.str []), .nils]), (.agg [(iN 5), (.str []), .nils, (.str []), (.list [(.agg [(iN 0)])])]), (.agg [(iN 6), (.str []), .nils, (.str []), (.list [(.agg [(iN 1)])])]), (.agg [(iN 4), (.str []), (.list [(.agg [(.list [(.agg [(iN 1), (iN 1), (.str []), .nils]), (.agg [(iN 2), (iN 0), (.str [112]), .nils]), (.agg [(iN 8), (iN 0), (.str []), (.list [(.agg [(iN 0)]), (.agg [(iN 1)])])]), (.agg [(iN 11), (iN 0), (.str []), (.list [(.agg [(iN 2)])])])])])]), (.str []), .nils]), (.agg [(iN 3), (.str [69]), (.list [(.agg [(.list [(.agg [(iN 1), (iN 1), (.str []), .nils])])])]), (.str []), .nils]), (.agg [(iN 1), (.str [43]), .nils, (.str []), .nils]), (.agg [(iN 3), (.str [69]), (.list [(.agg [(.list [(.agg [(iN 1), (iN 2), (.str []), .nils])])])]), (.str []), .nils]), (.agg [(iN 5), (.str []), .nils, (.str []), (.list [(.agg [(iN 3)]), (.agg [(iN 4)]), (.agg [(iN 5)]), (.agg [(iN 6)])])]), (.agg [(iN 2), (.str [48, 45, 57]), .nils, (.str []), .nils]), (.agg [(iN 5), (.str []), .nils, (.str []), (.list [(.agg [(iN 8)])])]), (.agg [(iN 1), (.str [40]), .nils, (.str []), .nils]), (.agg [(iN 3), (.str [69]), (.list [(.agg [(.list [(.agg [(iN 1), (iN 0), (.str []), .nils])])])]), (.str []), .nils]), (.agg [(iN 1), (.str [41]), .nils, (.str []), .nils]), (.agg [(iN 5), (.str []), .nils, (.str []), (.list [(.agg [(iN 10)]), (.agg [(iN 11)]), (.agg [(iN 12)])])]), (.agg [(iN 6), (.str []), .nils, (.str []), (.list [(.agg [(iN 7)]), (.agg [(iN 9)]), (.agg [(iN 13)])])])])
def Sb4 : T := (.list [(.agg [(.str [83]), .nils, (iN 2)]), (.agg [(.str [69]), (.list [(.agg [(.str [112])])]), (iN 14)])])
theorem split4 : qaj tab 100000 x30 [.t (iN 4)] = some (.tup [.str [83, 32, 45, 62, 32, 69, 40, 48, 41, 32, 59, 10, 69, 40, 112, 41, 32, 45, 62, 32, 123, 32, 33, 40, 49, 32, 60, 32, 112, 41, 32, 125, 32, 69, 40, 49, 41, 32, 34, 43, 34, 32, 69, 40, 50, 41, 32, 124, 32, 91, 48, 45, 57, 93, 32, 124, 32, 34, 40, 34, 32, 69, 40, 48, 41, 32, 34, 41, 34, 32, 59, 10], .str [49, 43, 50]]) := by kernel_rfl
theorem read4 : qaj tab 100000 x28 [.t (.str [83, 32, 45, 62, 32, 69, 40, 48, 41, 32, 59, 10, 69, 40, 112, 41, 32, 45, 62, 32, 123, 32, 33, 40, 49, 32, 60, 32, 112, 41, 32, 125, 32, 69, 40, 49, 41, 32, 34, 43, 34, 32, 69, 40, 50, 41, 32, 124, 32, 91, 48, 45, 57, 93, 32, 124, 32, 34, 40, 34, 32, 69, 40, 48, 41, 32, 34, 41, 34, 32, 59, 10])] = some (.tup [.agg [Sa4, Sb4], (.bool true)]) := by kernel_rfl
theorem flat4 : qaj tab 100000 x29 [.t (.agg [Sa4, Sb4])] = some (.tup [.agg [.list (.agg [.str [83], (.list []), Az4] :: G4)], (.bool true)]) := by kernel_rfl
theorem gok4 : qaj tab 100000 x22 [.t (.agg [.list (.agg [.str [83], (.list []), Az4] :: G4)])] = some (.bool true) := by kernel_rfl
theorem ra4_0 : qaj tab 100000 x44 [.t (.agg [.list (.agg [.str [83], (.list []), Az4] :: G4)]), .t (.str [83])] = some (iN 0) := by kernel_rfl
theorem ra4_1 : qaj tab 100000 x44 [.t (.agg [.list (.agg [.str [83], (.list []), Az4] :: G4)]), .t (.str [69])] = some (iN 1) := by kernel_rfl
def raT4 : List (List Nat × Nat) := [([83], 0), ([69], 1)]
theorem right4 : grOk SRf MKf VNf (qav raT4) (.agg [.str [83], (.list []), Az4] :: G4) = true := by kernel_rfl
theorem ar4 : arOk (qav raT4) (.agg [.str [83], (.list []), Az4] :: G4) = true := by kernel_rfl
theorem gram4 : GramOk SRf MKf VNf (qav raT4) [83] (.list []) Az4 G4 :=
 { sets := qjf, marks := qjr, names := qke, right := right4, ar := ar4, few := by decide, first := rfl, none_ := rfl
   gok := fun σ => qab e22 rfl (A := A22) rfl rfl (ts := [.agg [.list (.agg [.str [83], (.list []), Az4] :: G4)]]) gok4 σ
   rules := by
    intro nm j h
    have hm := qbh h
    simp only [raT4, List.mem_cons, List.not_mem_nil, or_false, Prod.mk.injEq] at hm
    rcases hm with ⟨rfl, rfl⟩ | ⟨rfl, rfl⟩
    ·exact fun σ => qab e44 rfl (A := A44) rfl rfl (ts := [.agg [.list (.agg [.str [83], (.list []), Az4] :: G4)], .str [83]]) ra4_0 σ
    ·exact fun σ => qab e44 rfl (A := A44) rfl rfl (ts := [.agg [.list (.agg [.str [83], (.list []), Az4] :: G4)], .str [69]]) ra4_1 σ
 }
def G5 : List T := []
def Az5 : T := (.list [(.agg [(.list [(.agg [(iN 3), (.str [83]), (.list []), (.str [])]), (.agg [(iN 3), (.str [83]), (.list []), (.str [])])])]), (.agg [(.list [(.agg [(iN 1), (.str [97]), (.list []), (.str [])])])]), (.agg [(.list [])])])
def Sa5 : T := (.list [(.agg [(iN 3), (.str [83]), .nils, (.str []), .nils]), (.agg [(iN 3), (.str [83]), .nils, (.str []), .nils]), (.agg [(iN 5), (.str []), .nils, (.str []), (.list [(.agg [(iN 0)]), (.agg [(iN 1)])])]), (.agg [(iN 1), (.str [97]), .nils, (.str []), .nils]), (.agg [(iN 5), (.str []), .nils, (.str []), (.list [(.agg [(iN 3)])])]), (.agg [(iN 5), (.str []), .nils, (.str []), (.list [])]), (.agg [(iN 6), (.str []), .nils, (.str []), (.list [(.agg [(iN 2)]), (.agg [(iN 4)]), (.agg [(iN 5)])])])])
def Sb5 : T := (.list [(.agg [(.str [83]), .nils, (iN 6)])])
theorem split5 : qaj tab 100000 x30 [.t (iN 5)] = some (.tup [.str [83, 32, 45, 62, 32, 83, 32, 83, 32, 124, 32, 34, 97, 34, 32, 124, 32, 59, 10], .str [97]]) := by kernel_rfl
theorem read5 : qaj tab 100000 x28 [.t (.str [83, 32, 45, 62, 32, 83, 32, 83, 32, 124, 32, 34, 97, 34, 32, 124, 32, 59, 10])] = some (.tup [.agg [Sa5, Sb5], (.bool true)]) := by kernel_rfl
theorem flat5 : qaj tab 100000 x29 [.t (.agg [Sa5, Sb5])] = some (.tup [.agg [.list (.agg [.str [83], (.list []), Az5] :: G5)], (.bool true)]) := by kernel_rfl
theorem gok5 : qaj tab 100000 x22 [.t (.agg [.list (.agg [.str [83], (.list []), Az5] :: G5)])] = some (.bool true) := by kernel_rfl
theorem ra5_0 : qaj tab 100000 x44 [.t (.agg [.list (.agg [.str [83], (.list []), Az5] :: G5)]), .t (.str [83])] = some (iN 0) := by kernel_rfl
def raT5 : List (List Nat × Nat) := [([83], 0)]
theorem right5 : grOk SRf MKf VNf (qav raT5) (.agg [.str [83], (.list []), Az5] :: G5) = true := by kernel_rfl
theorem ar5 : arOk (qav raT5) (.agg [.str [83], (.list []), Az5] :: G5) = true := by kernel_rfl
theorem gram5 : GramOk SRf MKf VNf (qav raT5) [83] (.list []) Az5 G5 :=
 { sets := qjf, marks := qjr, names := qke, right := right5, ar := ar5, few := by decide, first := rfl, none_ := rfl
   gok := fun σ => qab e22 rfl (A := A22) rfl rfl (ts := [.agg [.list (.agg [.str [83], (.list []), Az5] :: G5)]]) gok5 σ
   rules := by
    intro nm j h
    have hm := qbh h
    simp only [raT5, List.mem_cons, List.not_mem_nil, or_false, Prod.mk.injEq] at hm
    rcases hm with ⟨rfl, rfl⟩
    ·exact fun σ => qab e44 rfl (A := A44) rfl rfl (ts := [.agg [.list (.agg [.str [83], (.list []), Az5] :: G5)], .str [83]]) ra5_0 σ
 }
def G6 : List T := [(.agg [(.str [120, 48]), (.list []), (.list [(.agg [(.list [(.agg [(iN 2), (.str [97, 98]), (.list []), (.str [])])])]), (.agg [(.list [(.agg [(iN 2), (.str [97, 98]), (.list []), (.str [])]), (.agg [(iN 3), (.str [120, 48]), (.list []), (.str [])])])])])]), (.agg [(.str [120, 49]), (.list []), (.list [(.agg [(.list [(.agg [(iN 1), (.str [49]), (.list []), (.str [])])])]), (.agg [.nils])])])]
def Az6 : T := (.list [(.agg [(.list [(.agg [(iN 3), (.str [120, 48]), (.list []), (.str [])]), (.agg [(iN 3), (.str [120, 49]), (.list []), (.str [])])])])])
def Sa6 : T := (.list [(.agg [(iN 2), (.str [97, 98]), .nils, (.str []), .nils]), (.agg [(iN 5), (.str []), .nils, (.str []), (.list [(.agg [(iN 0)])])]), (.agg [(iN 6), (.str []), .nils, (.str []), (.list [(.agg [(iN 1)])])]), (.agg [(iN 8), (.str []), .nils, (.str []), (.list [(.agg [(iN 2)])])]), (.agg [(iN 1), (.str [49]), .nils, (.str []), .nils]), (.agg [(iN 5), (.str []), .nils, (.str []), (.list [(.agg [(iN 4)])])]), (.agg [(iN 6), (.str []), .nils, (.str []), (.list [(.agg [(iN 5)])])]), (.agg [(iN 9), (.str []), .nils, (.str []), (.list [(.agg [(iN 6)])])]), (.agg [(iN 5), (.str []), .nils, (.str []), (.list [(.agg [(iN 3)]), (.agg [(iN 7)])])]), (.agg [(iN 6), (.str []), .nils, (.str []), (.list [(.agg [(iN 8)])])])])
def Sb6 : T := (.list [(.agg [(.str [83]), .nils, (iN 9)])])
theorem split6 : qaj tab 100000 x30 [.t (iN 6)] = some (.tup [.str [83, 32, 45, 62, 32, 40, 32, 91, 97, 98, 93, 32, 41, 43, 32, 40, 32, 34, 49, 34, 32, 41, 63, 32, 59, 10], .str [97, 98, 49]]) := by kernel_rfl
theorem read6 : qaj tab 100000 x28 [.t (.str [83, 32, 45, 62, 32, 40, 32, 91, 97, 98, 93, 32, 41, 43, 32, 40, 32, 34, 49, 34, 32, 41, 63, 32, 59, 10])] = some (.tup [.agg [Sa6, Sb6], (.bool true)]) := by kernel_rfl
theorem flat6 : qaj tab 100000 x29 [.t (.agg [Sa6, Sb6])] = some (.tup [.agg [.list (.agg [.str [83], (.list []), Az6] :: G6)], (.bool true)]) := by kernel_rfl
theorem gok6 : qaj tab 100000 x22 [.t (.agg [.list (.agg [.str [83], (.list []), Az6] :: G6)])] = some (.bool true) := by kernel_rfl
theorem ra6_0 : qaj tab 100000 x44 [.t (.agg [.list (.agg [.str [83], (.list []), Az6] :: G6)]), .t (.str [83])] = some (iN 0) := by kernel_rfl
theorem ra6_1 : qaj tab 100000 x44 [.t (.agg [.list (.agg [.str [83], (.list []), Az6] :: G6)]), .t (.str [120, 48])] = some (iN 1) := by kernel_rfl
theorem ra6_2 : qaj tab 100000 x44 [.t (.agg [.list (.agg [.str [83], (.list []), Az6] :: G6)]), .t (.str [120, 49])] = some (iN 2) := by kernel_rfl
def raT6 : List (List Nat × Nat) := [([83], 0), ([120, 48], 1), ([120, 49], 2)]
theorem right6 : grOk SRf MKf VNf (qav raT6) (.agg [.str [83], (.list []), Az6] :: G6) = true := by kernel_rfl
theorem ar6 : arOk (qav raT6) (.agg [.str [83], (.list []), Az6] :: G6) = true := by kernel_rfl
theorem gram6 : GramOk SRf MKf VNf (qav raT6) [83] (.list []) Az6 G6 :=
 { sets := qjf, marks := qjr, names := qke, right := right6, ar := ar6, few := by decide, first := rfl, none_ := rfl
   gok := fun σ => qab e22 rfl (A := A22) rfl rfl (ts := [.agg [.list (.agg [.str [83], (.list []), Az6] :: G6)]]) gok6 σ
   rules := by
    intro nm j h
    have hm := qbh h
    simp only [raT6, List.mem_cons, List.not_mem_nil, or_false, Prod.mk.injEq] at hm
    rcases hm with ⟨rfl, rfl⟩ | ⟨rfl, rfl⟩ | ⟨rfl, rfl⟩
    ·exact fun σ => qab e44 rfl (A := A44) rfl rfl (ts := [.agg [.list (.agg [.str [83], (.list []), Az6] :: G6)], .str [83]]) ra6_0 σ
    ·exact fun σ => qab e44 rfl (A := A44) rfl rfl (ts := [.agg [.list (.agg [.str [83], (.list []), Az6] :: G6)], .str [120, 48]]) ra6_1 σ
    ·exact fun σ => qab e44 rfl (A := A44) rfl rfl (ts := [.agg [.list (.agg [.str [83], (.list []), Az6] :: G6)], .str [120, 49]]) ra6_2 σ
 }
def G7 : List T := [(.agg [(.str [65]), (.list []), (.list [(.agg [(.list [(.agg [(iN 1), (.str [97]), (.list []), (.str [])]), (.agg [(iN 3), (.str [65]), (.list []), (.str [])])])]), (.agg [(.list [(.agg [(iN 1), (.str [97]), (.list []), (.str [])])])])])]), (.agg [(.str [66]), (.list []), (.list [(.agg [(.list [(.agg [(iN 3), (.str [66]), (.list []), (.str [])]), (.agg [(iN 1), (.str [97]), (.list []), (.str [])])])]), (.agg [(.list [(.agg [(iN 1), (.str [97]), (.list []), (.str [])])])])])])]
def Az7 : T := (.list [(.agg [(.list [(.agg [(iN 3), (.str [65]), (.list []), (.str [])])])]), (.agg [(.list [(.agg [(iN 3), (.str [66]), (.list []), (.str [])])])])])
def Sa7 : T := (.list [(.agg [(iN 3), (.str [65]), .nils, (.str []), .nils]), (.agg [(iN 5), (.str []), .nils, (.str []), (.list [(.agg [(iN 0)])])]), (.agg [(iN 3), (.str [66]), .nils, (.str []), .nils]), (.agg [(iN 5), (.str []), .nils, (.str []), (.list [(.agg [(iN 2)])])]), (.agg [(iN 6), (.str []), .nils, (.str []), (.list [(.agg [(iN 1)]), (.agg [(iN 3)])])]), (.agg [(iN 1), (.str [97]), .nils, (.str []), .nils]), (.agg [(iN 3), (.str [65]), .nils, (.str []), .nils]), (.agg [(iN 5), (.str []), .nils, (.str []), (.list [(.agg [(iN 5)]), (.agg [(iN 6)])])]), (.agg [(iN 1), (.str [97]), .nils, (.str []), .nils]), (.agg [(iN 5), (.str []), .nils, (.str []), (.list [(.agg [(iN 8)])])]), (.agg [(iN 6), (.str []), .nils, (.str []), (.list [(.agg [(iN 7)]), (.agg [(iN 9)])])]), (.agg [(iN 3), (.str [66]), .nils, (.str []), .nils]), (.agg [(iN 1), (.str [97]), .nils, (.str []), .nils]), (.agg [(iN 5), (.str []), .nils, (.str []), (.list [(.agg [(iN 11)]), (.agg [(iN 12)])])]), (.agg [(iN 1), (.str [97]), .nils, (.str []), .nils]), (.agg [(iN 5), (.str []), .nils, (.str []), (.list [(.agg [(iN 14)])])]), (.agg [(iN 6), (.str []), .nils, (.str []), (.list [(.agg [(iN 13)]), (.agg [(iN 15)])])])])
def Sb7 : T := (.list [(.agg [(.str [83]), .nils, (iN 4)]), (.agg [(.str [65]), .nils, (iN 10)]), (.agg [(.str [66]), .nils, (iN 16)])])
theorem split7 : qaj tab 100000 x30 [.t (iN 7)] = some (.tup [.str [83, 32, 45, 62, 32, 65, 32, 124, 32, 66, 32, 59, 10, 65, 32, 45, 62, 32, 34, 97, 34, 32, 65, 32, 124, 32, 34, 97, 34, 32, 59, 10, 66, 32, 45, 62, 32, 66, 32, 34, 97, 34, 32, 124, 32, 34, 97, 34, 32, 59, 10], .str [97]]) := by kernel_rfl
theorem read7 : qaj tab 100000 x28 [.t (.str [83, 32, 45, 62, 32, 65, 32, 124, 32, 66, 32, 59, 10, 65, 32, 45, 62, 32, 34, 97, 34, 32, 65, 32, 124, 32, 34, 97, 34, 32, 59, 10, 66, 32, 45, 62, 32, 66, 32, 34, 97, 34, 32, 124, 32, 34, 97, 34, 32, 59, 10])] = some (.tup [.agg [Sa7, Sb7], (.bool true)]) := by kernel_rfl
theorem flat7 : qaj tab 100000 x29 [.t (.agg [Sa7, Sb7])] = some (.tup [.agg [.list (.agg [.str [83], (.list []), Az7] :: G7)], (.bool true)]) := by kernel_rfl
theorem gok7 : qaj tab 100000 x22 [.t (.agg [.list (.agg [.str [83], (.list []), Az7] :: G7)])] = some (.bool true) := by kernel_rfl
theorem ra7_0 : qaj tab 100000 x44 [.t (.agg [.list (.agg [.str [83], (.list []), Az7] :: G7)]), .t (.str [83])] = some (iN 0) := by kernel_rfl
theorem ra7_1 : qaj tab 100000 x44 [.t (.agg [.list (.agg [.str [83], (.list []), Az7] :: G7)]), .t (.str [65])] = some (iN 1) := by kernel_rfl
theorem ra7_2 : qaj tab 100000 x44 [.t (.agg [.list (.agg [.str [83], (.list []), Az7] :: G7)]), .t (.str [66])] = some (iN 2) := by kernel_rfl
def raT7 : List (List Nat × Nat) := [([83], 0), ([65], 1), ([66], 2)]
theorem right7 : grOk SRf MKf VNf (qav raT7) (.agg [.str [83], (.list []), Az7] :: G7) = true := by kernel_rfl
theorem ar7 : arOk (qav raT7) (.agg [.str [83], (.list []), Az7] :: G7) = true := by kernel_rfl
theorem gram7 : GramOk SRf MKf VNf (qav raT7) [83] (.list []) Az7 G7 :=
 { sets := qjf, marks := qjr, names := qke, right := right7, ar := ar7, few := by decide, first := rfl, none_ := rfl
   gok := fun σ => qab e22 rfl (A := A22) rfl rfl (ts := [.agg [.list (.agg [.str [83], (.list []), Az7] :: G7)]]) gok7 σ
   rules := by
    intro nm j h
    have hm := qbh h
    simp only [raT7, List.mem_cons, List.not_mem_nil, or_false, Prod.mk.injEq] at hm
    rcases hm with ⟨rfl, rfl⟩ | ⟨rfl, rfl⟩ | ⟨rfl, rfl⟩
    ·exact fun σ => qab e44 rfl (A := A44) rfl rfl (ts := [.agg [.list (.agg [.str [83], (.list []), Az7] :: G7)], .str [83]]) ra7_0 σ
    ·exact fun σ => qab e44 rfl (A := A44) rfl rfl (ts := [.agg [.list (.agg [.str [83], (.list []), Az7] :: G7)], .str [65]]) ra7_1 σ
    ·exact fun σ => qab e44 rfl (A := A44) rfl rfl (ts := [.agg [.list (.agg [.str [83], (.list []), Az7] :: G7)], .str [66]]) ra7_2 σ
 }
end X
