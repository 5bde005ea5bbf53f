import Derived.Test.YtocnlpnlngnbnaaP39x66
import Derived.Test.YtocnlpnlngnbnaaRowLib
namespace Go.Proofs.Ytocnlpnlngnbnaa.P39
open Go.RowKit Go.Proofs.YtocnlpnlngnbnaaW.PrintWords Go.Proofs.YtocnlpnlngnbnaaW.PrintLast Go.Proofs.YtocnlpnlngnbnaaW.PrintMore Go.Proofs.Ytocnlpnlngnbnaa.RowLib
/-- The pure statement of the law SlitOnce: what is left to prove of it. -/
def papermilllaw39_SlitOnce.Pure : Prop := ∀ (a0_0 : Int) (a0_1 : Int) (l0_2 : List (S57)) (a0_3 : Int) (a0_4 : Int) (a1_0 : Int) (a1_1 : Int) (l1_2 : List (S57)) (a1_3 : Int) (a1_4 : Int) (a2_0 : Int) (a2_1 : Int), (I64 a0_0) → (I64 a0_1) → (l0_2.length ≤ 9223372036854775807 ∧ ∀ y ∈ l0_2, (I64 y.f0) ∧ (I64 y.f1)) → (I64 a0_3) → (I64 a0_4) → (I64 a1_0) → (I64 a1_1) → (l1_2.length ≤ 9223372036854775807 ∧ ∀ y ∈ l1_2, (I64 y.f0) ∧ (I64 y.f1)) → (I64 a1_3) → (I64 a1_4) → (I64 a2_0) → (I64 a2_1) → ∃ k, papermilllaw39_SlitOnce.f k a0_0 a0_1 l0_2 a0_3 a0_4 a1_0 a1_1 l1_2 a1_3 a1_4 a2_0 a2_1 = some true
end Go.Proofs.Ytocnlpnlngnbnaa.P39
