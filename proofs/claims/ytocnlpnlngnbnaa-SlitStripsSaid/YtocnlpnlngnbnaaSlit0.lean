/- Slits: that the examples are awake; lists of strips that are the same. -/
import Derived.Test.YtocnlpnlngnbnaaPat0
import Derived.Test.YtocnlpnlngnbnaaP39x11
import Derived.Test.YtocnlpnlngnbnaaP39x36
namespace Go.Proofs.Ytocnlpnlngnbnaa.P39
open Go.RowKit Go.Proofs.YtocnlpnlngnbnaaW.PrintWords Go.Proofs.YtocnlpnlngnbnaaW.PrintLast Go.Proofs.YtocnlpnlngnbnaaW.PrintMore
set_option linter.unusedVariables false
set_option linter.unusedSimpArgs false
namespace Slit
open Pat (into w64 rd_at)
theorem awake : Ev (fun k => papermilllaw39_awake.f k) true := Ev.of (fun k => papermilllaw39_awake.mono k) (k := 40) (by decide +kernel)
theorem awake_then {f : Nat → Option Bool} (h : ∀ k, papermilllaw39_awake.f k = some true → f (k + 1) = some true) : Ev f true := by
  obtain ⟨K, hK⟩ := awake
  refine ⟨K + 1, fun n hn => ?_⟩
  obtain ⟨m, rfl⟩ : ∃ m, n = m + 1 := ⟨n - 1, by omega⟩
  exact h m (hK m (by omega))
theorem same_l0 (a : List S57) (ha : a.length ≤ 9000000000000000000) (d : Nat) : ∀ i : Nat, i + d = a.length → Ev (fun k => papermillref39_Same.l0 k a a (i : Int)) true := by
  induction d with
  | zero =>
    intro i hi
    exact Ev.step (fun k => by rw [papermillref39_Same.l0, if_neg (by omega)]) (Ev.now _)
  | succ d ih =>
    intro i hi
    refine Ev.step (fun k => ?_) (ih (i + 1) (by omega))
    rw [papermillref39_Same.l0, if_pos (by omega), if_pos (by omega), if_pos (by omega), if_neg (by simp), w64 (x := (i : Int) + 1) (by omega) (by omega)]
    rfl
theorem same (a : List S57) (ha : a.length ≤ 9000000000000000000) : Ev (fun k => papermillref39_Same.f k a a) true :=
  Ev.congr (fun k => by rw [papermillref39_Same.f, if_pos rfl]; rfl) (same_l0 a ha a.length 0 (by omega))
end Slit
end Go.Proofs.Ytocnlpnlngnbnaa.P39
