/- Small words of the pure proofs. -/
import Derived.Test.YtocnlpnlngnbnaaP39x0
namespace Go.Proofs.Ytocnlpnlngnbnaa.P39
open Go.RowKit Go.Proofs.YtocnlpnlngnbnaaW.PrintWords Go.Proofs.YtocnlpnlngnbnaaW.PrintLast Go.Proofs.YtocnlpnlngnbnaaW.PrintMore
set_option linter.unusedVariables false
set_option linter.unusedSimpArgs false
namespace Pat
theorem rd_at (l : List Int) (i : Nat) (h : i < l.length) : rd l (i : Int) = l[i] := by
  unfold rd
  rw [Int.toNat_natCast, List.getD_eq_getElem?_getD, List.getElem?_eq_getElem h]
  rfl
theorem w64 {x : Int} (h0 : -9223372036854775808 ≤ x) (h1 : x ≤ 9223372036854775807) : wrap64 x = x := by unfold wrap64; omega

/-- What a function tells once a part of it is known. -/
theorem into {α β : Type} {g : Nat → Option α} {F f : Nat → Option β} {a : α} {r : β} (h : Ev g a) (e : ∀ n, g n = some a → F n = f n) (k : Ev f r) : Ev F r := by
  obtain ⟨K, h⟩ := h
  obtain ⟨K', k⟩ := k
  exact ⟨max K K', fun n hn => (e n (h n (by omega))).trans (k n (by omega))⟩
end Pat
end Go.Proofs.Ytocnlpnlngnbnaa.P39
