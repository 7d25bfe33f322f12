/- A part of the proof. No statement of the claim is in it. -/
import Derived.Test.YtojpedmanjlnlaaGreatTpGa
open Go Go.V Go.Proofs
namespace X
set_option maxRecDepth 100000
set_option maxHeartbeats 4000000
set_option linter.all false
def G0 : List T := []
def Az0 : T := (.list [(.agg [(.list [(.agg [(iN 1), (.str [97]), (.list []), (.str [])]), (.agg [(iN 3), (.str [83]), (.list []), (.str [])]), (.agg [(iN 1), (.str [98]), (.list []), (.str [])])])]), (.agg [(.list [])])])
def Sa0 : T := (.list [(.agg [(iN 1), (.str [97]), .nils, (.str []), .nils]), (.agg [(iN 3), (.str [83]), .nils, (.str []), .nils]), (.agg [(iN 1), (.str [98]), .nils, (.str []), .nils]), (.agg [(iN 5), (.str []), .nils, (.str []), (.list [(.agg [(iN 0)]), (.agg [(iN 1)]), (.agg [(iN 2)])])]), (.agg [(iN 5), (.str []), .nils, (.str []), (.list [])]), (.agg [(iN 6), (.str []), .nils, (.str []), (.list [(.agg [(iN 3)]), (.agg [(iN 4)])])])])
def Sb0 : T := (.list [(.agg [(.str [83]), .nils, (iN 5)])])
theorem split0 : qaj tab 100000 x30 [.t (iN 0)] = some (.tup [.str [83, 32, 45, 62, 32, 34, 97, 34, 32, 83, 32, 34, 98, 34, 32, 124, 32, 59, 10], .str [97, 98]]) := by kernel_rfl
theorem read0 : qaj tab 100000 x28 [.t (.str [83, 32, 45, 62, 32, 34, 97, 34, 32, 83, 32, 34, 98, 34, 32, 124, 32, 59, 10])] = some (.tup [.agg [Sa0, Sb0], (.bool true)]) := by kernel_rfl
theorem flat0 : qaj tab 100000 x29 [.t (.agg [Sa0, Sb0])] = some (.tup [.agg [.list (.agg [.str [83], (.list []), Az0] :: G0)], (.bool true)]) := by kernel_rfl
theorem gok0 : qaj tab 100000 x22 [.t (.agg [.list (.agg [.str [83], (.list []), Az0] :: G0)])] = some (.bool true) := by kernel_rfl
theorem ra0_0 : qaj tab 100000 x44 [.t (.agg [.list (.agg [.str [83], (.list []), Az0] :: G0)]), .t (.str [83])] = some (iN 0) := by kernel_rfl
def raT0 : List (List Nat × Nat) := [([83], 0)]
theorem right0 : grOk SRf MKf VNf (qav raT0) (.agg [.str [83], (.list []), Az0] :: G0) = true := by kernel_rfl
theorem ar0 : arOk (qav raT0) (.agg [.str [83], (.list []), Az0] :: G0) = true := by kernel_rfl
theorem gram0 : GramOk SRf MKf VNf (qav raT0) [83] (.list []) Az0 G0 :=
 { sets := qjf, marks := qjr, names := qke, right := right0, ar := ar0, few := by decide, first := rfl, none_ := rfl
   gok := fun σ => qab e22 rfl (A := A22) rfl rfl (ts := [.agg [.list (.agg [.str [83], (.list []), Az0] :: G0)]]) gok0 σ
   rules := by
    intro nm j h
    have hm := qbh h
    simp only [raT0, List.mem_cons, List.not_mem_nil, or_false, Prod.mk.injEq] at hm
    rcases hm with ⟨rfl, rfl⟩
    ·exact fun σ => qab e44 rfl (A := A44) rfl rfl (ts := [.agg [.list (.agg [.str [83], (.list []), Az0] :: G0)], .str [83]]) ra0_0 σ
 }
def G1 : List T := []
def Az1 : T := (.list [(.agg [(.list [(.agg [(iN 3), (.str [83]), (.list []), (.str [])]), (.agg [(iN 1), (.str [97]), (.list []), (.str [])])])]), (.agg [(.list [(.agg [(iN 1), (.str [97]), (.list []), (.str [])])])])])
def Sa1 : T := (.list [(.agg [(iN 3), (.str [83]), .nils, (.str []), .nils]), (.agg [(iN 1), (.str [97]), .nils, (.str []), .nils]), (.agg [(iN 5), (.str []), .nils, (.str []), (.list [(.agg [(iN 0)]), (.agg [(iN 1)])])]), (.agg [(iN 1), (.str [97]), .nils, (.str []), .nils]), (.agg [(iN 5), (.str []), .nils, (.str []), (.list [(.agg [(iN 3)])])]), (.agg [(iN 6), (.str []), .nils, (.str []), (.list [(.agg [(iN 2)]), (.agg [(iN 4)])])])])
def Sb1 : T := (.list [(.agg [(.str [83]), .nils, (iN 5)])])
theorem split1 : qaj tab 100000 x30 [.t (iN 1)] = some (.tup [.str [83, 32, 45, 62, 32, 83, 32, 34, 97, 34, 32, 124, 32, 34, 97, 34, 32, 59, 10], .str [97]]) := by kernel_rfl
theorem read1 : qaj tab 100000 x28 [.t (.str [83, 32, 45, 62, 32, 83, 32, 34, 97, 34, 32, 124, 32, 34, 97, 34, 32, 59, 10])] = some (.tup [.agg [Sa1, Sb1], (.bool true)]) := by kernel_rfl
theorem flat1 : qaj tab 100000 x29 [.t (.agg [Sa1, Sb1])] = some (.tup [.agg [.list (.agg [.str [83], (.list []), Az1] :: G1)], (.bool true)]) := by kernel_rfl
theorem gok1 : qaj tab 100000 x22 [.t (.agg [.list (.agg [.str [83], (.list []), Az1] :: G1)])] = some (.bool true) := by kernel_rfl
theorem ra1_0 : qaj tab 100000 x44 [.t (.agg [.list (.agg [.str [83], (.list []), Az1] :: G1)]), .t (.str [83])] = some (iN 0) := by kernel_rfl
def raT1 : List (List Nat × Nat) := [([83], 0)]
theorem right1 : grOk SRf MKf VNf (qav raT1) (.agg [.str [83], (.list []), Az1] :: G1) = true := by kernel_rfl
theorem ar1 : arOk (qav raT1) (.agg [.str [83], (.list []), Az1] :: G1) = true := by kernel_rfl
theorem gram1 : GramOk SRf MKf VNf (qav raT1) [83] (.list []) Az1 G1 :=
 { sets := qjf, marks := qjr, names := qke, right := right1, ar := ar1, few := by decide, first := rfl, none_ := rfl
   gok := fun σ => qab e22 rfl (A := A22) rfl rfl (ts := [.agg [.list (.agg [.str [83], (.list []), Az1] :: G1)]]) gok1 σ
   rules := by
    intro nm j h
    have hm := qbh h
    simp only [raT1, List.mem_cons, List.not_mem_nil, or_false, Prod.mk.injEq] at hm
    rcases hm with ⟨rfl, rfl⟩
    ·exact fun σ => qab e44 rfl (A := A44) rfl rfl (ts := [.agg [.list (.agg [.str [83], (.list []), Az1] :: G1)], .str [83]]) ra1_0 σ
 }
def G2 : List T := [(.agg [(.str [78]), (.list []), (.list [(.agg [(.list [(.agg [(iN 2), (.str [48, 45, 57]), (.list []), (.str [])])])])])]), (.agg [(.str [66]), (.list [(.agg [(.str [107])])]), (.list [(.agg [(.list [(.agg [(iN 4), (.str []), (.list [(.agg [(.list [(.agg [(iN 2), (iN 0), (.str [107]), (.list [])]), (.agg [(iN 1), (iN 0), (.str []), (.list [])]), (.agg [(iN 9), (iN 0), (.str []), (.list [(.agg [(iN 0)]), (.agg [(iN 1)])])])])])]), (.str [])])])]), (.agg [(.list [(.agg [(iN 4), (.str []), (.list [(.agg [(.list [(.agg [(iN 1), (iN 0), (.str []), (.list [])]), (.agg [(iN 2), (iN 0), (.str [107]), (.list [])]), (.agg [(iN 8), (iN 0), (.str []), (.list [(.agg [(iN 0)]), (.agg [(iN 1)])])])])])]), (.str [])]), (.agg [(iN 2), (.str [97, 98]), (.list []), (.str [])]), (.agg [(iN 3), (.str [66]), (.list [(.agg [(.list [(.agg [(iN 2), (iN 0), (.str [107]), (.list [])]), (.agg [(iN 1), (iN 1), (.str []), (.list [])]), (.agg [(iN 5), (iN 0), (.str []), (.list [(.agg [(iN 0)]), (.agg [(iN 1)])])])])])]), (.str [])])])])])])]
def Az2 : T := (.list [(.agg [(.list [(.agg [(iN 3), (.str [78]), (.list []), (.str [110])]), (.agg [(iN 1), (.str [58]), (.list []), (.str [])]), (.agg [(iN 3), (.str [66]), (.list [(.agg [(.list [(.agg [(iN 2), (iN 0), (.str [110]), (.list [])])])])]), (.str [])])])])])
def Sa2 : T := (.list [(.agg [(iN 3), (.str [78]), .nils, (.str [110]), .nils]), (.agg [(iN 1), (.str [58]), .nils, (.str []), .nils]), (.agg [(iN 3), (.str [66]), (.list [(.agg [(.list [(.agg [(iN 2), (iN 0), (.str [110]), .nils])])])]), (.str []), .nils]), (.agg [(iN 5), (.str []), .nils, (.str []), (.list [(.agg [(iN 0)]), (.agg [(iN 1)]), (.agg [(iN 2)])])]), (.agg [(iN 6), (.str []), .nils, (.str []), (.list [(.agg [(iN 3)])])]), (.agg [(iN 2), (.str [48, 45, 57]), .nils, (.str []), .nils]), (.agg [(iN 5), (.str []), .nils, (.str []), (.list [(.agg [(iN 5)])])]), (.agg [(iN 6), (.str []), .nils, (.str []), (.list [(.agg [(iN 6)])])]), (.agg [(iN 4), (.str []), (.list [(.agg [(.list [(.agg [(iN 2), (iN 0), (.str [107]), .nils]), (.agg [(iN 1), (iN 0), (.str []), .nils]), (.agg [(iN 9), (iN 0), (.str []), (.list [(.agg [(iN 0)]), (.agg [(iN 1)])])])])])]), (.str []), .nils]), (.agg [(iN 5), (.str []), .nils, (.str []), (.list [(.agg [(iN 8)])])]), (.agg [(iN 4), (.str []), (.list [(.agg [(.list [(.agg [(iN 1), (iN 0), (.str []), .nils]), (.agg [(iN 2), (iN 0), (.str [107]), .nils]), (.agg [(iN 8), (iN 0), (.str []), (.list [(.agg [(iN 0)]), (.agg [(iN 1)])])])])])]), (.str []), .nils]), (.agg [(iN 2), (.str [97, 98]), .nils, (.str []), .nils]), (.agg [(iN 3), (.str [66]), (.list [(.agg [(.list [(.agg [(iN 2), (iN 0), (.str [107]), .nils]), (.agg [(iN 1), (iN 1), (.str []), .nils]), (.agg [(iN 5), (iN 0), (.str []), (.list [(.agg [(iN 0)]), (.agg [(iN 1)])])])])])]), (.str []), .nils]), (.agg [(iN 5), (.str []), .nils, (.str []), (.list [(.agg [(iN 10)]), (.agg [(iN 11)]), (.agg [(iN 12)])])]), (.agg [(iN 6), (.str []), .nils, (.str []), (.list [(.agg [(iN 9)]), (.agg [(iN 13)])])])])
def Sb2 : T := (.list [(.agg [(.str [83]), .nils, (iN 4)]), (.agg [(.str [78]), .nils, (iN 7)]), (.agg [(.str [66]), (.list [(.agg [(.str [107])])]), (iN 14)])])
theorem split2 : qaj tab 100000 x30 [.t (iN 2)] = some (.tup [.str [83, 32, 45, 62, 32, 110, 58, 78, 32, 34, 58, 34, 32, 66, 40, 110, 41, 32, 59, 10, 78, 32, 45, 62, 32, 91, 48, 45, 57, 93, 32, 59, 10, 66, 40, 107, 41, 32, 45, 62, 32, 123, 32, 107, 32, 61, 32, 48, 32, 125, 32, 124, 32, 123, 32, 48, 32, 60, 32, 107, 32, 125, 32, 91, 97, 98, 93, 32, 66, 40, 107, 32, 45, 32, 49, 41, 32, 59, 10], .str [49, 50, 97, 58, 97, 98]]) := by kernel_rfl
theorem read2 : qaj tab 100000 x28 [.t (.str [83, 32, 45, 62, 32, 110, 58, 78, 32, 34, 58, 34, 32, 66, 40, 110, 41, 32, 59, 10, 78, 32, 45, 62, 32, 91, 48, 45, 57, 93, 32, 59, 10, 66, 40, 107, 41, 32, 45, 62, 32, 123, 32, 107, 32, 61, 32, 48, 32, 125, 32, 124, 32, 123, 32, 48, 32, 60, 32, 107, 32, 125, 32, 91, 97, 98, 93, 32, 66, 40, 107, 32, 45, 32, 49, 41, 32, 59, 10])] = some (.tup [.agg [Sa2, Sb2], (.bool true)]) := by kernel_rfl
theorem flat2 : qaj tab 100000 x29 [.t (.agg [Sa2, Sb2])] = some (.tup [.agg [.list (.agg [.str [83], (.list []), Az2] :: G2)], (.bool true)]) := by kernel_rfl
theorem gok2 : qaj tab 100000 x22 [.t (.agg [.list (.agg [.str [83], (.list []), Az2] :: G2)])] = some (.bool true) := by kernel_rfl
theorem ra2_0 : qaj tab 100000 x44 [.t (.agg [.list (.agg [.str [83], (.list []), Az2] :: G2)]), .t (.str [83])] = some (iN 0) := by kernel_rfl
theorem ra2_1 : qaj tab 100000 x44 [.t (.agg [.list (.agg [.str [83], (.list []), Az2] :: G2)]), .t (.str [78])] = some (iN 1) := by kernel_rfl
theorem ra2_2 : qaj tab 100000 x44 [.t (.agg [.list (.agg [.str [83], (.list []), Az2] :: G2)]), .t (.str [66])] = some (iN 2) := by kernel_rfl
def raT2 : List (List Nat × Nat) := [([83], 0), ([78], 1), ([66], 2)]
theorem right2 : grOk SRf MKf VNf (qav raT2) (.agg [.str [83], (.list []), Az2] :: G2) = true := by kernel_rfl
theorem ar2 : arOk (qav raT2) (.agg [.str [83], (.list []), Az2] :: G2) = true := by kernel_rfl
theorem gram2 : GramOk SRf MKf VNf (qav raT2) [83] (.list []) Az2 G2 :=
 { sets := qjf, marks := qjr, names := qke, right := right2, ar := ar2, few := by decide, first := rfl, none_ := rfl
   gok := fun σ => qab e22 rfl (A := A22) rfl rfl (ts := [.agg [.list (.agg [.str [83], (.list []), Az2] :: G2)]]) gok2 σ
   rules := by
    intro nm j h
    have hm := qbh h
    simp only [raT2, List.mem_cons, List.not_mem_nil, or_false, Prod.mk.injEq] at hm
    rcases hm with ⟨rfl, rfl⟩ | ⟨rfl, rfl⟩ | ⟨rfl, rfl⟩
    ·exact fun σ => qab e44 rfl (A := A44) rfl rfl (ts := [.agg [.list (.agg [.str [83], (.list []), Az2] :: G2)], .str [83]]) ra2_0 σ
    ·exact fun σ => qab e44 rfl (A := A44) rfl rfl (ts := [.agg [.list (.agg [.str [83], (.list []), Az2] :: G2)], .str [78]]) ra2_1 σ
    ·exact fun σ => qab e44 rfl (A := A44) rfl rfl (ts := [.agg [.list (.agg [.str [83], (.list []), Az2] :: G2)], .str [66]]) ra2_2 σ
 }
def G3 : List T := [(.agg [(.str [120, 48]), (.list []), (.list [(.agg [.nils]), (.agg [(.list [(.agg [(iN 1), (.str [97]), (.list []), (.str [])]), (.agg [(iN 3), (.str [120, 48]), (.list []), (.str [])])])]), (.agg [(.list [(.agg [(iN 1), (.str [98]), (.list []), (.str [])]), (.agg [(iN 3), (.str [120, 48]), (.list []), (.str [])])])])])])]
def Az3 : T := (.list [(.agg [(.list [(.agg [(iN 3), (.str [120, 48]), (.list []), (.str [])]), (.agg [(iN 1), (.str [97]), (.list []), (.str [])])])])])
def Sa3 : T := (.list [(.agg [(iN 1), (.str [97]), .nils, (.str []), .nils]), (.agg [(iN 5), (.str []), .nils, (.str []), (.list [(.agg [(iN 0)])])]), (.agg [(iN 1), (.str [98]), .nils, (.str []), .nils]), (.agg [(iN 5), (.str []), .nils, (.str []), (.list [(.agg [(iN 2)])])]), (.agg [(iN 6), (.str []), .nils, (.str []), (.list [(.agg [(iN 1)]), (.agg [(iN 3)])])]), (.agg [(iN 7), (.str []), .nils, (.str []), (.list [(.agg [(iN 4)])])]), (.agg [(iN 1), (.str [97]), .nils, (.str []), .nils]), (.agg [(iN 5), (.str []), .nils, (.str []), (.list [(.agg [(iN 5)]), (.agg [(iN 6)])])]), (.agg [(iN 6), (.str []), .nils, (.str []), (.list [(.agg [(iN 7)])])])])
def Sb3 : T := (.list [(.agg [(.str [83]), .nils, (iN 8)])])
theorem split3 : qaj tab 100000 x30 [.t (iN 3)] = some (.tup [.str [83, 32, 45, 62, 32, 40, 32, 34, 97, 34, 32, 124, 32, 34, 98, 34, 32, 41, 42, 32, 34, 97, 34, 32, 59, 10], .str [97, 98]]) := by kernel_rfl
theorem read3 : qaj tab 100000 x28 [.t (.str [83, 32, 45, 62, 32, 40, 32, 34, 97, 34, 32, 124, 32, 34, 98, 34, 32, 41, 42, 32, 34, 97, 34, 32, 59, 10])] = some (.tup [.agg [Sa3, Sb3], (.bool true)]) := by kernel_rfl
theorem flat3 : qaj tab 100000 x29 [.t (.agg [Sa3, Sb3])] = some (.tup [.agg [.list (.agg [.str [83], (.list []), Az3] :: G3)], (.bool true)]) := by kernel_rfl
theorem gok3 : qaj tab 100000 x22 [.t (.agg [.list (.agg [.str [83], (.list []), Az3] :: G3)])] = some (.bool true) := by kernel_rfl
theorem ra3_0 : qaj tab 100000 x44 [.t (.agg [.list (.agg [.str [83], (.list []), Az3] :: G3)]), .t (.str [83])] = some (iN 0) := by kernel_rfl
theorem ra3_1 : qaj tab 100000 x44 [.t (.agg [.list (.agg [.str [83], (.list []), Az3] :: G3)]), .t (.str [120, 48])] = some (iN 1) := by kernel_rfl
def raT3 : List (List Nat × Nat) := [([83], 0), ([120, 48], 1)]
theorem right3 : grOk SRf MKf VNf (qav raT3) (.agg [.str [83], (.list []), Az3] :: G3) = true := by kernel_rfl
theorem ar3 : arOk (qav raT3) (.agg [.str [83], (.list []), Az3] :: G3) = true := by kernel_rfl
theorem gram3 : GramOk SRf MKf VNf (qav raT3) [83] (.list []) Az3 G3 :=
 { sets := qjf, marks := qjr, names := qke, right := right3, ar := ar3, few := by decide, first := rfl, none_ := rfl
   gok := fun σ => qab e22 rfl (A := A22) rfl rfl (ts := [.agg [.list (.agg [.str [83], (.list []), Az3] :: G3)]]) gok3 σ
   rules := by
    intro nm j h
    have hm := qbh h
    simp only [raT3, List.mem_cons, List.not_mem_nil, or_false, Prod.mk.injEq] at hm
    rcases hm with ⟨rfl, rfl⟩ | ⟨rfl, rfl⟩
    ·exact fun σ => qab e44 rfl (A := A44) rfl rfl (ts := [.agg [.list (.agg [.str [83], (.list []), Az3] :: G3)], .str [83]]) ra3_0 σ
    ·exact fun σ => qab e44 rfl (A := A44) rfl rfl (ts := [.agg [.list (.agg [.str [83], (.list []), Az3] :: G3)], .str [120, 48]]) ra3_1 σ
 }
end X
