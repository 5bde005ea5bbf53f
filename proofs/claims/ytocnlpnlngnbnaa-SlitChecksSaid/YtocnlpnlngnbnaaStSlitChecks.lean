import Derived.Test.YtocnlpnlngnbnaaP39x39
import Derived.Test.YtocnlpnlngnbnaaRowLib
namespace Go.Proofs.Ytocnlpnlngnbnaa.P39
open Go.RowKit Go.Proofs.YtocnlpnlngnbnaaW.PrintWords Go.Proofs.YtocnlpnlngnbnaaW.PrintLast Go.Proofs.YtocnlpnlngnbnaaW.PrintMore Go.Proofs.Ytocnlpnlngnbnaa.RowLib
/-- The pure statement of the law SlitChecks: what is left to prove of it. -/
def papermilllaw39_SlitChecks.Pure : Prop := ∀ (a0 : Int) (l1 : List (S57)), (I64 a0) → (l1.length ≤ 9223372036854775807 ∧ ∀ y ∈ l1, (I64 y.f0) ∧ (I64 y.f1)) → ∃ k, papermilllaw39_SlitChecks.f k a0 l1 = some true
end Go.Proofs.Ytocnlpnlngnbnaa.P39
