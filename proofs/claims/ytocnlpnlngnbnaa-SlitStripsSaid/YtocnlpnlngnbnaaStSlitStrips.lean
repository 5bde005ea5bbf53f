import Derived.Test.YtocnlpnlngnbnaaP39x47
import Derived.Test.YtocnlpnlngnbnaaRowLib
namespace Go.Proofs.Ytocnlpnlngnbnaa.P39
open Go.RowKit Go.Proofs.YtocnlpnlngnbnaaW.PrintWords Go.Proofs.YtocnlpnlngnbnaaW.PrintLast Go.Proofs.YtocnlpnlngnbnaaW.PrintMore Go.Proofs.Ytocnlpnlngnbnaa.RowLib
/-- The pure statement of the law SlitStrips: what is left to prove of it. -/
def papermilllaw39_SlitStrips.Pure : Prop := ∀ (a0_0 : Int) (a0_1 : Int) (a0_2 : Int) (a0_3 : Int) (l0_4 : List Int) (l1 : List Int), (I64 a0_0) → (I64 a0_1) → (I64 a0_2) → (I64 a0_3) → (l0_4.length ≤ 9223372036854775807 ∧ ∀ y ∈ l0_4, I64 y) → (l1.length ≤ 9223372036854775807 ∧ ∀ y ∈ l1, I64 y) → ∃ k, papermilllaw39_SlitStrips.f k a0_0 a0_1 a0_2 a0_3 l0_4 l1 = some true
end Go.Proofs.Ytocnlpnlngnbnaa.P39
