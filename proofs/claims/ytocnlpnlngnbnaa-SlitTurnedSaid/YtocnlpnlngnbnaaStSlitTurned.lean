import Derived.Test.YtocnlpnlngnbnaaP39x62
import Derived.Test.YtocnlpnlngnbnaaRowLib
namespace Go.Proofs.Ytocnlpnlngnbnaa.P39
open Go.RowKit Go.Proofs.YtocnlpnlngnbnaaW.PrintWords Go.Proofs.YtocnlpnlngnbnaaW.PrintLast Go.Proofs.YtocnlpnlngnbnaaW.PrintMore Go.Proofs.Ytocnlpnlngnbnaa.RowLib
/-- The pure statement of the law SlitTurned: what is left to prove of it. -/
def papermilllaw39_SlitTurned.Pure : Prop := ∀ (a0_0 : Int) (a0_1 : Int) (a0_2 : Bool) (l0_3 : List (S69)) (a1 : Int) (a2 : Int), (I64 a0_0) → (I64 a0_1) → (l0_3.length ≤ 9223372036854775807 ∧ ∀ y ∈ l0_3, (I64 y.f0) ∧ (I64 y.f1) ∧ (True)) → (I64 a1) → (I64 a2) → ∃ k, papermilllaw39_SlitTurned.f k a0_0 a0_1 a0_2 l0_3 a1 a2 = some true
end Go.Proofs.Ytocnlpnlngnbnaa.P39
