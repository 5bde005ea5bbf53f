import Derived.Test.YtocnlpnlngnbnaaP39x51
import Derived.Test.YtocnlpnlngnbnaaRowLib
namespace Go.Proofs.Ytocnlpnlngnbnaa.P39
open Go.RowKit Go.Proofs.YtocnlpnlngnbnaaW.PrintWords Go.Proofs.YtocnlpnlngnbnaaW.PrintLast Go.Proofs.YtocnlpnlngnbnaaW.PrintMore Go.Proofs.Ytocnlpnlngnbnaa.RowLib
/-- The pure statement of the law SlitSets: what is left to prove of it. -/
def papermilllaw39_SlitSets.Pure : Prop := ∀ (a0_0 : Int) (a0_1 : Int) (l0_2 : List (S57)) (a0_3 : Int) (a0_4 : Int), (I64 a0_0) → (I64 a0_1) → (l0_2.length ≤ 9223372036854775807 ∧ ∀ y ∈ l0_2, (I64 y.f0) ∧ (I64 y.f1)) → (I64 a0_3) → (I64 a0_4) → ∃ k, papermilllaw39_SlitSets.f k a0_0 a0_1 l0_2 a0_3 a0_4 = some true
end Go.Proofs.Ytocnlpnlngnbnaa.P39
