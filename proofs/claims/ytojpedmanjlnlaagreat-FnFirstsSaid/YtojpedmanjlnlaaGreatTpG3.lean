/- A part of the proof. No statement of the claim is in it. -/
import Derived.Test.YtojpedmanjlnlaaGreatTpGa
open Go Go.V Go.Proofs
namespace X
set_option maxRecDepth 100000
set_option maxHeartbeats 4000000
set_option linter.all false
def G12 : List T := [(.agg [(.str [67]), (.list [(.agg [(.str [110])])]), (.list [(.agg [(.list [(.agg [(iN 1), (.str [97]), (.list []), (.str [])]), (.agg [(iN 3), (.str [67]), (.list [(.agg [(.list [(.agg [(iN 2), (iN 0), (.str [110]), (.list [])]), (.agg [(iN 1), (iN 2), (.str []), (.list [])]), (.agg [(iN 7), (iN 0), (.str []), (.list [(.agg [(iN 0)]), (.agg [(iN 1)])])])])])]), (.str [])])])]), (.agg [(.list [(.agg [(iN 4), (.str []), (.list [(.agg [(.list [(.agg [(iN 2), (iN 0), (.str [110]), (.list [])]), (.agg [(iN 1), (iN 0), (.str []), (.list [])]), (.agg [(iN 9), (iN 0), (.str []), (.list [(.agg [(iN 0)]), (.agg [(iN 1)])])])])])]), (.str [])])])]), (.agg [(.list [(.agg [(iN 3), (.str [67]), (.list [(.agg [(.list [(.agg [(iN 2), (iN 0), (.str [110]), (.list [])]), (.agg [(iN 1), (iN 9), (.str []), (.list [])]), (.agg [(iN 6), (iN 0), (.str []), (.list [(.agg [(iN 0)]), (.agg [(iN 1)])])])])])]), (.str [])])])])])])]
def Az12 : T := (.list [(.agg [(.list [(.agg [(iN 3), (.str [67]), (.list [(.agg [(.list [(.agg [(iN 1), (iN 3), (.str []), (.list [])])])])]), (.str [])])])])])
def Sa12 : T := (.list [(.agg [(iN 3), (.str [67]), (.list [(.agg [(.list [(.agg [(iN 1), (iN 3), (.str []), .nils])])])]), (.str []), .nils]), (.agg [(iN 5), (.str []), .nils, (.str []), (.list [(.agg [(iN 0)])])]), (.agg [(iN 6), (.str []), .nils, (.str []), (.list [(.agg [(iN 1)])])]), (.agg [(iN 1), (.str [97]), .nils, (.str []), .nils]), (.agg [(iN 3), (.str [67]), (.list [(.agg [(.list [(.agg [(iN 2), (iN 0), (.str [110]), .nils]), (.agg [(iN 1), (iN 2), (.str []), .nils]), (.agg [(iN 7), (iN 0), (.str []), (.list [(.agg [(iN 0)]), (.agg [(iN 1)])])])])])]), (.str []), .nils]), (.agg [(iN 5), (.str []), .nils, (.str []), (.list [(.agg [(iN 3)]), (.agg [(iN 4)])])]), (.agg [(iN 4), (.str []), (.list [(.agg [(.list [(.agg [(iN 2), (iN 0), (.str [110]), .nils]), (.agg [(iN 1), (iN 0), (.str []), .nils]), (.agg [(iN 9), (iN 0), (.str []), (.list [(.agg [(iN 0)]), (.agg [(iN 1)])])])])])]), (.str []), .nils]), (.agg [(iN 5), (.str []), .nils, (.str []), (.list [(.agg [(iN 6)])])]), (.agg [(iN 3), (.str [67]), (.list [(.agg [(.list [(.agg [(iN 2), (iN 0), (.str [110]), .nils]), (.agg [(iN 1), (iN 9), (.str []), .nils]), (.agg [(iN 6), (iN 0), (.str []), (.list [(.agg [(iN 0)]), (.agg [(iN 1)])])])])])]), (.str []), .nils]), (.agg [(iN 5), (.str []), .nils, (.str []), (.list [(.agg [(iN 8)])])]), (.agg [(iN 6), (.str []), .nils, (.str []), (.list [(.agg [(iN 5)]), (.agg [(iN 7)]), (.agg [(iN 9)])])])])
def Sb12 : T := (.list [(.agg [(.str [83]), .nils, (iN 2)]), (.agg [(.str [67]), (.list [(.agg [(.str [110])])]), (iN 10)])])
theorem split12 : qaj tab 100000 x30 [.t (iN 12)] = some (.tup [.str [83, 32, 45, 62, 32, 67, 40, 51, 41, 32, 59, 10, 67, 40, 110, 41, 32, 45, 62, 32, 34, 97, 34, 32, 67, 40, 110, 32, 47, 32, 50, 41, 32, 124, 32, 123, 32, 110, 32, 61, 32, 48, 32, 125, 32, 124, 32, 67, 40, 110, 32, 42, 32, 57, 41, 32, 59, 10], .str [97]]) := by kernel_rfl
theorem read12 : qaj tab 100000 x28 [.t (.str [83, 32, 45, 62, 32, 67, 40, 51, 41, 32, 59, 10, 67, 40, 110, 41, 32, 45, 62, 32, 34, 97, 34, 32, 67, 40, 110, 32, 47, 32, 50, 41, 32, 124, 32, 123, 32, 110, 32, 61, 32, 48, 32, 125, 32, 124, 32, 67, 40, 110, 32, 42, 32, 57, 41, 32, 59, 10])] = some (.tup [.agg [Sa12, Sb12], (.bool true)]) := by kernel_rfl
theorem flat12 : qaj tab 100000 x29 [.t (.agg [Sa12, Sb12])] = some (.tup [.agg [.list (.agg [.str [83], (.list []), Az12] :: G12)], (.bool true)]) := by kernel_rfl
theorem gok12 : qaj tab 100000 x22 [.t (.agg [.list (.agg [.str [83], (.list []), Az12] :: G12)])] = some (.bool true) := by kernel_rfl
theorem ra12_0 : qaj tab 100000 x44 [.t (.agg [.list (.agg [.str [83], (.list []), Az12] :: G12)]), .t (.str [83])] = some (iN 0) := by kernel_rfl
theorem ra12_1 : qaj tab 100000 x44 [.t (.agg [.list (.agg [.str [83], (.list []), Az12] :: G12)]), .t (.str [67])] = some (iN 1) := by kernel_rfl
def qug : List (List Nat × Nat) := [([83], 0), ([67], 1)]
theorem right12 : grOk SRf MKf VNf (qav qug) (.agg [.str [83], (.list []), Az12] :: G12) = true := by kernel_rfl
theorem ar12 : arOk (qav qug) (.agg [.str [83], (.list []), Az12] :: G12) = true := by kernel_rfl
theorem gram12 : GramOk SRf MKf VNf (qav qug) [83] (.list []) Az12 G12 :=
 { sets := qjf, marks := qjr, names := qke, right := right12, ar := ar12, few := by decide, first := rfl, none_ := rfl
   gok := fun σ => qab e22 rfl (A := A22) rfl rfl (ts := [.agg [.list (.agg [.str [83], (.list []), Az12] :: G12)]]) gok12 σ
   rules := by
    intro nm j h
    have hm := qbh h
    simp only [qug, List.mem_cons, List.not_mem_nil, or_false, Prod.mk.injEq] at hm
    rcases hm with ⟨rfl, rfl⟩ | ⟨rfl, rfl⟩
    ·exact fun σ => qab e44 rfl (A := A44) rfl rfl (ts := [.agg [.list (.agg [.str [83], (.list []), Az12] :: G12)], .str [83]]) ra12_0 σ
    ·exact fun σ => qab e44 rfl (A := A44) rfl rfl (ts := [.agg [.list (.agg [.str [83], (.list []), Az12] :: G12)], .str [67]]) ra12_1 σ
 }
end X
